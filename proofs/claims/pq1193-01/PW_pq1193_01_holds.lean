import PyProof.Rows.All
import Wide.All
import OpenK.AllK
import Wide.FinOn
import Lean
import PySem.Challenge.RW_pq1193_01
set_option Elab.async false
set_option autoImplicit false
set_option maxRecDepth 100000
set_option linter.unusedVariables false
section
open PySem PySem.W PyProof.Rows
set_option maxHeartbeats 8000000
open_top hd for PySem.Challenge.rw_pq1193_01
end
namespace Mux

inductive V where
  | none | bool (b : Bool) | int (i : Int) | str (n : Nat) | bytes (b : List UInt8)
  | list (xs : List V) | tup (xs : List V)
  | obj (c n : Nat) | dict (n : Nat) | sd (n : Nat) | ml (n : Nat)

inductive Op where | add | sub | mul | fdiv | mod | pow
  deriving DecidableEq
inductive CO where | eq | ne | lt | gt | is | isnot | isin | notin
  deriving DecidableEq
inductive BF where | len | sorted | max | min | dict | list | isbool
  deriving DecidableEq
inductive BM where | pop | get | clear | update | append | index
  deriving DecidableEq

mutual
inductive PE where
  | const (v : V) | var (x : Nat) | attr (e : PE) (a : Nat) | idx (e i : PE) | upto (e : PE) (k : Nat) | rev (e : PE)
  | bin (o : Op) (a b : PE) | cmp (o : CO) (a b : PE) | not (e : PE) | neg (e : PE) | bop (isAnd : Bool) (es : List PE)
  | ite (c a b : PE) | list (es : List PE) | ml (es : List PE) | tup (es : List PE) | dict0 | dict1 (k v : PE)
  | sdict (ks : List Nat) (vs : List PE) | comp (elt : PE) (t : Tg) (s : Src) (c : Option PE)
  | call (f : Nat) (args : List PE) | new (c : Nat) (args : List PE) | meth (e : PE) (m : Nat) (args : List PE)
  | bi (f : BF) (e : PE) | bm (m : BM) (e : PE) (args : List PE) | bad
inductive Src where
  | val (e : PE) | range (es : List PE) | enum (e : PE)
inductive Tg where
  | var (x : Nat) | attr (e : PE) (a : Nat) | idx (e i : PE) | tup (ts : List Tg)
end
inductive PS where
  | expr (e : PE) | ret (e : Option PE) | asg (t : Tg) (e : PE) | aug (x : Nat) (o : Op) (e : PE)
  | ite (c : PE) (a b : List PS) | while (c : PE) (b : List PS) | for (t : Tg) (s : Src) (b : List PS)

abbrev Fields := List (Nat × V)
structure St where
  cells : List Fields
  panes : List Fields
  wins : List Fields
  sess : List Fields
  dicts : List (List (Int × V))
  sds : List (List (Nat × V))
  mls : List (List V)

abbrev Loc := List (Nat × V)
inductive Fl where | next | ret (v : V)

structure Fn where
  params : List Nat
  defs : Nat
  body : List PS
structure Prog where
  fn : Nat → Option Fn
  meth : Nat → Nat → Option Nat
  init : Nat → Option Nat
  attr : Nat → Nat → Bool

def upd {α : Type} (k : Nat) (v : α) : List (Nat × α) → List (Nat × α)
  | [] => [(k, v)]
  | (k', v') :: r => if k' == k then (k, v) :: r else (k', v') :: upd k v r
def lget {α : Type} (k : Nat) : List (Nat × α) → Option α
  | [] => .none
  | (k', v') :: r => if k' == k then some v' else lget k r
def lrm {α : Type} (ks : List Nat) (l : List (Nat × α)) : List (Nat × α) := l.filter fun p => !ks.contains p.1

def St.objs (s : St) : Nat → List Fields
  | 0 => s.cells | 1 => s.panes | 2 => s.wins | 3 => s.sess | _ => []
def St.setObjs (s : St) (c : Nat) (l : List Fields) : St := match c with
  | 0 => { s with cells := l } | 1 => { s with panes := l } | 2 => { s with wins := l } | 3 => { s with sess := l } | _ => s

def getA (P : Prog) (s : St) (a : Nat) : V → Option V
  | .obj c n => if P.attr c a then ((s.objs c)[n]?).bind (lget a) else .none
  | _ => .none
def setA (P : Prog) (s : St) (a : Nat) (v : V) : V → Option St
  | .obj c n => if P.attr c a then ((s.objs c)[n]?).bind fun f => if f.length ≤ 900 then some (s.setObjs c ((s.objs c).set n (upd a v f))) else .none else .none
  | _ => .none

def asList (s : St) : V → Option (List V)
  | .list xs => some xs
  | .ml k => s.mls[k]?
  | _ => .none

def V.sc : V → Bool
  | .none => true
  | .bool _ => true
  | .int _ => true
  | _ => false
def V.eq1 : V → V → Option Bool
  | .none, .none => some true
  | .none, .int _ => some false
  | .int _, .none => some false
  | .bool a, .bool b => some (a == b)
  | .int a, .int b => some (a == b)
  | _, _ => .none
def eqs1 : List V → List V → Option Bool
  | [], [] => some true
  | x :: xs, y :: ys => match V.eq1 x y, eqs1 xs ys with
    | some a, some b => some (a && b)
    | _, _ => .none
  | [], _ :: _ => some false
  | _ :: _, [] => some false
def eqS (s : St) (a b : V) : Option Bool := match a, b with
  | .dict i, .dict j => match s.dicts[i]?, s.dicts[j]? with
    | some x, some [] => if x.length ≤ 1000 then some x.isEmpty else .none
    | _, _ => .none
  | .str a, .str b => some (a == b)
  | .tup xs, .tup ys => if xs.all V.sc && ys.all V.sc then eqs1 xs ys else .none
  | a, b => match asList s a, asList s b with
    | some xs, some ys => if xs.all V.sc && ys.all V.sc then eqs1 xs ys else .none
    | _, _ => V.eq1 a b
/-- == alone: lists of another length, whatever they hold -/
def eqS' (s : St) (a b : V) : Option Bool := match asList s a, asList s b with
  | some xs, some ys => if xs.length = ys.length then eqS s a b else some false
  | _, _ => eqS s a b
def V.is : V → V → Option Bool
  | .none, .none => some true
  | _, .none => some false
  | .obj a b, .obj c d => some (a == c && b == d)
  | .dict a, .dict b => some (a == b)
  | _, _ => .none

def dget (es : List (Int × V)) (k : Int) : Option V := (es.find? fun p => p.1 = k).map (·.2)
def dset (es : List (Int × V)) (k : Int) (v : V) : List (Int × V) :=
  if es.any (fun p => p.1 = k) then es.map (fun p => if p.1 = k then (p.1, v) else p) else es ++ [(k, v)]
def ddel (es : List (Int × V)) (k : Int) : List (Int × V) := es.filter fun p => decide (p.1 ≠ k)
def dkey (es : List (Int × V)) : V → Option (Option V)
  | .int k => some (dget es k)
  | .none => some .none
  | _ => .none

def inS (s : St) (x d : V) : Option Bool := match d with
  | .dict i => (s.dicts[i]?).bind fun es => (dkey es x).map (·.isSome)
  | _ => .none
def cmpS (s : St) (o : CO) (a b : V) : Option Bool := match o with
  | .eq => eqS' s a b
  | .ne => (eqS s a b).map (!·)
  | .is => V.is a b
  | .isnot => (V.is a b).map (!·)
  | .isin => inS s a b
  | .notin => (inS s a b).map (!·)
  | .lt => match a, b with | .int x, .int y => some (decide (x < y)) | _, _ => .none
  | .gt => match a, b with | .int x, .int y => some (decide (x > y)) | _, _ => .none

def binS (s : St) (o : Op) (a b : V) : Option V := match o, a, b with
  | .add, .int x, .int y => some (.int (x + y))
  | .sub, .int x, .int y => some (.int (x - y))
  | .mul, .int x, .int y => if x.natAbs < 2 ^ 31 && y.natAbs < 2 ^ 31 then some (.int (x * y)) else .none
  | .fdiv, .int x, .int y => if 0 < y && y < 1000000 then some (.int (x.fdiv y)) else .none
  | .mod, .int x, .int y => if 0 < y then some (.int (x.fmod y)) else .none
  | .pow, .int x, .int y => if x = 10 && y = 6 then some (.int 1000000) else .none
  | .add, a, b => match asList s a, asList s b with
    | some xs, some ys => if xs.length + ys.length ≤ 1000 then some (.list (xs ++ ys)) else .none
    | _, _ => .none
  | _, _, _ => .none

def at? (xs : List V) (i : Int) : Option V := if 0 ≤ i then (if i < 1000000 then xs[i.toNat]? else .none) else if -(xs.length : Int) ≤ i ∧ -1000000 ≤ i then xs[(i + (xs.length : Int)).toNat]? else .none
def getI (s : St) (d k : V) : Option V := match d, k with
  | .sd i, .str a => (s.sds[i]?).bind (lget a)
  | .dict i, .int k => (s.dicts[i]?).bind fun es => dget es k
  | .list xs, .int k => at? xs k
  | .ml i, .int k => (s.mls[i]?).bind fun xs => at? xs k
  | _, _ => .none
def setI (s : St) (d k v : V) : Option St := match d, k with
  | .sd i, .str a => (s.sds[i]?).bind fun es => if es.length ≤ 1000 then some { s with sds := s.sds.set i (upd a v es) } else .none
  | .dict i, .int k => (s.dicts[i]?).bind fun es => if es.length ≤ 1000 then some { s with dicts := s.dicts.set i (dset es k v) } else .none
  | .ml i, .int k => (s.mls[i]?).bind fun xs => if 0 ≤ k ∧ k < xs.length ∧ k < 1000000 then some { s with mls := s.mls.set i (xs.set k.toNat v) } else .none
  | _, _ => .none

def insI (x : Int) : List Int → List Int
  | [] => [x]
  | y :: r => if x ≤ y then x :: y :: r else y :: insI x r
def sortI : List Int → List Int
  | [] => []
  | x :: r => insI x (sortI r)
def maxI : List Int → Option Int
  | [] => .none
  | x :: r => some (r.foldl (fun a b => if b > a then b else a) x)
def minI : List Int → Option Int
  | [] => .none
  | x :: r => some (r.foldl (fun a b => if b < a then b else a) x)
def pairsV : List V → Option (List (Int × V))
  | [] => some []
  | .tup [.int k, v] :: r => (pairsV r).map ((k, v) :: ·)
  | _ :: _ => .none
def dmerge (es more : List (Int × V)) : List (Int × V) := more.foldl (fun acc kv => dset acc kv.1 kv.2) es

def biS (s : St) (f : BF) (v : V) : Option (V × St) := match f, v with
  | .len, .list xs => if xs.length ≤ 1000 then some (.int xs.length, s) else .none
  | .len, .ml i => (s.mls[i]?).bind fun xs => if xs.length ≤ 1000 then some (.int xs.length, s) else .none
  | .len, .dict i => (s.dicts[i]?).bind fun es => if es.length ≤ 1000 then some (.int es.length, s) else .none
  | .sorted, .dict i => (s.dicts[i]?).bind fun es => if es.length < 64 then some (.list ((sortI (es.map (·.1))).map .int), s) else .none
  | .max, .dict i => (s.dicts[i]?).bind fun es => if es.length < 64 then (maxI (es.map (·.1))).map fun m => (.int m, s) else .none
  | .min, .dict i => (s.dicts[i]?).bind fun es => if es.length < 64 then (minI (es.map (·.1))).map fun m => (.int m, s) else .none
  | .dict, .list xs => if xs.length ≤ 1000 then (pairsV xs).map fun es => (.dict s.dicts.length, { s with dicts := s.dicts ++ [dmerge [] es] }) else .none
  | .list, .list xs => if xs.length ≤ 1000 then some (.list xs, s) else .none
  | .isbool, .bool _ => some (.bool true, s)
  | .isbool, .int _ => some (.bool false, s)
  | .isbool, .none => some (.bool false, s)
  | .isbool, .tup _ => some (.bool false, s)
  | _, _ => .none
def intsV : List V → Option (List Int)
  | [] => some []
  | .int i :: r => (intsV r).map (i :: ·)
  | _ :: _ => .none
def idxI (xs : List V) (k : Int) : Option Int := (intsV xs).bind fun ns => if ns.contains k then some ((ns.idxOf k : Nat) : Int) else .none
def bmS (s : St) (m : BM) (v : V) (as : List V) : Option (V × St) := match m, v, as with
  | .pop, .dict i, [.int k] => (s.dicts[i]?).bind fun es => if es.length ≤ 1000 then (dget es k).map fun v => (v, { s with dicts := s.dicts.set i (ddel es k) }) else .none
  | .pop, .dict i, [.int k, .none] => (s.dicts[i]?).bind fun es => if es.length ≤ 1000 then some ((dget es k).getD .none, { s with dicts := s.dicts.set i (ddel es k) }) else .none
  | .get, .dict i, [k] => (s.dicts[i]?).bind fun es => (dkey es k).map fun r => (r.getD .none, s)
  | .get, .dict i, [k, d] => (s.dicts[i]?).bind fun es => (dkey es k).map fun r => (r.getD d, s)
  | .clear, .dict i, [] => (s.dicts[i]?).bind fun es => if es.length ≤ 1000 then some (.none, { s with dicts := s.dicts.set i [] }) else .none
  | .update, .dict i, [.dict j] => if i = j then .none else (s.dicts[i]?).bind fun es => (s.dicts[j]?).bind fun more =>
      if es.length + more.length ≤ 1000 then some (.none, { s with dicts := s.dicts.set i (dmerge es more) }) else .none
  | .append, .ml i, [x] => (s.mls[i]?).bind fun xs => if xs.length ≤ 1000 then some (.none, { s with mls := s.mls.set i (xs ++ [x]) }) else .none
  | .index, .list xs, [.int k] => if xs.length ≤ 1000 then (idxI xs k).map fun n => (.int n, s) else .none
  | _, _, _ => .none

def rangeU (a b : Int) : List V := (List.range (b - a).toNat).map fun (k : Nat) => .int (a + k)
def rangeD (a b : Int) : List V := (List.range (a - b).toNat).map fun (k : Nat) => .int (a - k)
def rangeS : List V → Option (List V)
  | [.int b] => if -1000 ≤ b ∧ b ≤ 1000 then some (rangeU 0 b) else .none
  | [.int a, .int b] => if -1000 ≤ a ∧ a ≤ 1000 ∧ -1000 ≤ b ∧ b ≤ 1000 then some (rangeU a b) else .none
  | [.int a, .int b, .int (-1)] => if -1000 ≤ a ∧ a ≤ 1000 ∧ -1000 ≤ b ∧ b ≤ 1000 then some (rangeD a b) else .none
  | _ => .none
def enumFrom (i : Nat) : List V → List V
  | [] => []
  | x :: r => .tup [.int i, x] :: enumFrom (i + 1) r

structure Rec where
  E : PE → Loc → St → Option (V × St)
  B : PE → Loc → St → Option (Bool × St)
  S : PS → Loc → St → Option (Fl × Loc × St)

def evL (r : Rec) : List PE → Loc → St → Option (List V × St)
  | [], _, s => some ([], s)
  | e :: es, l, s => match r.E e l s with
    | some (v, s) => match evL r es l s with
      | some (vs, s) => some (v :: vs, s)
      | .none => .none
    | .none => .none

def exB (r : Rec) : List PS → Loc → St → Option (Fl × Loc × St)
  | [], l, s => some (.next, l, s)
  | p :: ps, l, s => match r.S p l s with
    | some (.next, l, s) => exB r ps l s
    | x => x

mutual
def assign (P : Prog) (r : Rec) : Tg → V → Loc → St → Option (Loc × St)
  | .var x, v, l, s => some (upd x v l, s)
  | .attr e a, v, l, s => match r.E e l s with
    | some (o, s) => (setA P s a v o).map fun s => (l, s)
    | .none => .none
  | .idx e i, v, l, s => match r.E e l s with
    | some (o, s) => match r.E i l s with
      | some (k, s) => (setI s o k v).map fun s => (l, s)
      | .none => .none
    | .none => .none
  | .tup ts, v, l, s => match v with
    | .tup xs => if ts.length == xs.length then assigns P r ts xs l s else .none
    | _ => .none
def assigns (P : Prog) (r : Rec) : List Tg → List V → Loc → St → Option (Loc × St)
  | [], [], l, s => some (l, s)
  | t :: ts, x :: xs, l, s => match assign P r t x l s with
    | some (l, s) => assigns P r ts xs l s
    | .none => .none
  | _, _, _, _ => .none
end
mutual
def Tg.vars : Tg → List Nat
  | .var x => [x]
  | .attr _ _ => []
  | .idx _ _ => []
  | .tup ts => Tg.varsL ts
def Tg.varsL : List Tg → List Nat
  | [] => []
  | t :: ts => t.vars ++ Tg.varsL ts
end

def compBody (P : Prog) (r : Rec) (elt : PE) (t : Tg) (c : Option PE) (l : Loc) (x : V) (s : St) : Option (Option V × St) :=
  match assign P r t x l s with
  | .none => .none
  | some (l, s) => match (match c with | .none => some (true, s) | some c => r.B c l s) with
    | .none => .none
    | some (false, s) => some (.none, s)
    | some (true, s) => match r.E elt l s with
      | .none => .none
      | some (y, s) => some (some y, s)
def compL (P : Prog) (r : Rec) (elt : PE) (t : Tg) (c : Option PE) (l : Loc) : List V → St → Option (List V × St)
  | [], s => some ([], s)
  | x :: xs, s => match compBody P r elt t c l x s with
    | .none => .none
    | some (y, s) => match compL P r elt t c l xs s with
      | .none => .none
      | some (ys, s) => some (y.toList ++ ys, s)
/-- the same over a mutable list, place by place -/
def compM (P : Prog) (r : Rec) (elt : PE) (t : Tg) (c : Option PE) (l : Loc) (k : Nat) : Nat → Nat → St → Option (List V × St)
  | 0, _, _ => .none
  | n + 1, i, s => match s.mls[k]? with
    | .none => .none
    | some xs => match xs[i]? with
      | .none => some ([], s)
      | some x => match compBody P r elt t c l x s with
        | .none => .none
        | some (y, s) => match compM P r elt t c l k n (i + 1) s with
          | .none => .none
          | some (ys, s) => some (y.toList ++ ys, s)
def forL (P : Prog) (r : Rec) (t : Tg) (b : List PS) : List V → Loc → St → Option (Fl × Loc × St)
  | [], l, s => some (.next, l, s)
  | x :: xs, l, s => match assign P r t x l s with
    | .none => .none
    | some (l, s) => match exB r b l s with
      | some (.next, l, s) => forL P r t b xs l s
      | x => x
def forM (P : Prog) (r : Rec) (t : Tg) (b : List PS) (k : Nat) : Nat → Nat → Loc → St → Option (Fl × Loc × St)
  | 0, _, _, _ => .none
  | n + 1, i, l, s => match s.mls[k]? with
    | .none => .none
    | some xs => match xs[i]? with
      | .none => some (.next, l, s)
      | some x => match assign P r t x l s with
        | .none => .none
        | some (l, s) => match exB r b l s with
          | some (.next, l, s) => forM P r t b k n (i + 1) l s
          | x => x

inductive It where | items (xs : List V) | place (k n : Nat)
def srcS (r : Rec) (src : Src) (l : Loc) (s : St) : Option (It × St) := match src with
  | .val e => match r.E e l s with
    | some (.list xs, s) => if xs.length ≤ 1000 then some (.items xs, s) else .none
    | some (.tup xs, s) => if xs.length ≤ 1000 then some (.items xs, s) else .none
    | some (.ml k, s) => (s.mls[k]?).bind fun xs => if xs.length ≤ 1000 then some (.place k (xs.length + 1), s) else .none
    | _ => .none
  | .range es => match evL r es l s with
    | some (vs, s) => (rangeS vs).map fun xs => (.items xs, s)
    | .none => .none
  | .enum e => match r.E e l s with
    | some (.list xs, s) => if xs.length ≤ 1000 then some (.items (enumFrom 0 xs), s) else .none
    | _ => .none

def bindP (params : List Nat) (defs : Nat) (vs : List V) : Option Loc :=
  if vs.length ≤ params.length ∧ params.length ≤ vs.length + defs then some (params.zip (vs ++ List.replicate (params.length - vs.length) V.none)) else .none
def callF (P : Prog) (r : Rec) (f : Nat) (vs : List V) (s : St) : Option (V × St) := match P.fn f with
  | .none => .none
  | some fn => match bindP fn.params fn.defs vs with
    | .none => .none
    | some l => match exB r fn.body l s with
      | some (.next, _, s) => some (.none, s)
      | some (.ret v, _, s) => some (v, s)
      | .none => .none
def newF (P : Prog) (r : Rec) (c : Nat) (vs : List V) (s : St) : Option (V × St) := if c < 4 then match P.init c with
  | .none => .none
  | some f => match callF P r f (.obj c (s.objs c).length :: vs) (s.setObjs c (s.objs c ++ [[]])) with
    | some (.none, s') => some (.obj c (s.objs c).length, s')
    | _ => .none else .none

def bopE (r : Rec) (isAnd : Bool) : List PE → Loc → St → Option (V × St)
  | [], _, _ => .none
  | [e], l, s => r.E e l s
  | e :: es, l, s => match r.E e l s with
    | some (.bool b, s) => if b = isAnd then bopE r isAnd es l s else some (.bool b, s)
    | _ => .none
def bopB (r : Rec) (isAnd : Bool) : List PE → Loc → St → Option (Bool × St)
  | [], _, s => some (isAnd, s)
  | e :: es, l, s => match r.B e l s with
    | some (b, s) => if b = isAnd then bopB r isAnd es l s else some (b, s)
    | .none => .none

def stepE (P : Prog) (r : Rec) : PE → Loc → St → Option (V × St)
  | .const v, _, s => some (v, s)
  | .var x, l, s => (lget x l).map fun v => (v, s)
  | .attr e a, l, s => match r.E e l s with
    | some (v, s) => (getA P s a v).map fun v => (v, s)
    | .none => .none
  | .idx e i, l, s => match r.E e l s with
    | some (o, s) => match r.E i l s with
      | some (k, s) => (getI s o k).map fun v => (v, s)
      | .none => .none
    | .none => .none
  | .upto e k, l, s => match r.E e l s with
    | some (.list xs, s) => if xs.length ≤ 1000 ∧ k ≤ 1000 then some (.list (xs.take k), s) else .none
    | _ => .none
  | .rev e, l, s => match r.E e l s with
    | some (.list xs, s) => if xs.length ≤ 1000 then some (.list xs.reverse, s) else .none
    | _ => .none
  | .bin o a b, l, s => match r.E a l s with
    | some (x, s) => match r.E b l s with
      | some (y, s) => (binS s o x y).map fun v => (v, s)
      | .none => .none
    | .none => .none
  | .cmp o a b, l, s => match r.E a l s with
    | some (x, s) => match r.E b l s with
      | some (y, s) => (cmpS s o x y).map fun v => (.bool v, s)
      | .none => .none
    | .none => .none
  | .not e, l, s => match r.E e l s with
    | some (.bool b, s) => some (.bool (!b), s)
    | _ => .none
  | .neg e, l, s => match r.E e l s with
    | some (.int i, s) => some (.int (-i), s)
    | _ => .none
  | .bop a es, l, s => bopE r a es l s
  | .ite c a b, l, s => match r.B c l s with
    | some (true, s) => r.E a l s
    | some (false, s) => r.E b l s
    | .none => .none
  | .list es, l, s => match evL r es l s with
    | some (vs, s) => if vs.length ≤ 1000 then some (.list vs, s) else .none
    | .none => .none
  | .tup es, l, s => match evL r es l s with
    | some (vs, s) => if vs.length ≤ 1000 then some (.tup vs, s) else .none
    | .none => .none
  | .ml es, l, s => match evL r es l s with
    | some (vs, s) => if vs.length ≤ 1000 then some (.ml s.mls.length, { s with mls := s.mls ++ [vs] }) else .none
    | .none => .none
  | .dict0, _, s => some (.dict s.dicts.length, { s with dicts := s.dicts ++ [[]] })
  | .dict1 k v, l, s => match r.E k l { s with dicts := s.dicts ++ [[]] } with
    | some (.int k, s') => match r.E v l s' with
      | some (v, s') => (match s'.dicts[s.dicts.length]? with
        | some [] => some (.dict s.dicts.length, { s' with dicts := s'.dicts.set s.dicts.length [(k, v)] })
        | _ => .none)
      | .none => .none
    | _ => .none
  | .sdict ks vs, l, s => match evL r vs l { s with sds := s.sds ++ [[]] } with
    | some (vs, s') => (match s'.sds[s.sds.length]? with
      | some [] => if ks.length = vs.length then some (.sd s.sds.length, { s' with sds := s'.sds.set s.sds.length (ks.zip vs) }) else .none
      | _ => .none)
    | .none => .none
  | .comp elt t src c, l, s => match srcS r src l s with
    | .none => .none
    | some (.items xs, s) => (compL P r elt t c (lrm t.vars l) xs s).map fun (ys, s) => (.list ys, s)
    | some (.place k n, s) => (compM P r elt t c (lrm t.vars l) k n 0 s).map fun (ys, s) => (.list ys, s)
  | .call f as, l, s => match evL r as l s with
    | some (vs, s) => callF P r f vs s
    | .none => .none
  | .new c as, l, s => match evL r as l s with
    | some (vs, s) => newF P r c vs s
    | .none => .none
  | .meth e m as, l, s => match r.E e l s with
    | some (.obj c n, s) => match P.meth c m with
      | some f => match evL r as l s with
        | some (vs, s) => callF P r f (.obj c n :: vs) s
        | .none => .none
      | .none => .none
    | _ => .none
  | .bi f e, l, s => match r.E e l s with
    | some (v, s) => biS s f v
    | .none => .none
  | .bm m e as, l, s => match r.E e l s with
    | some (v, s) => match evL r as l s with
      | some (vs, s) => bmS s m v vs
      | .none => .none
    | .none => .none
  | .bad, _, _ => .none

def stepB (P : Prog) (r : Rec) : PE → Loc → St → Option (Bool × St)
  | .not e, l, s => match r.B e l s with
    | some (b, s) => some (!b, s)
    | .none => .none
  | .bop a es, l, s => bopB r a es l s
  | .ite _ _ _, _, _ => .none
  | e, l, s => match stepE P r e l s with
    | some (.bool b, s) => some (b, s)
    | _ => .none

def stepS (P : Prog) (r : Rec) : PS → Loc → St → Option (Fl × Loc × St)
  | .expr e, l, s => match r.E e l s with
    | some (_, s) => some (.next, l, s)
    | .none => .none
  | .ret .none, l, s => some (.ret .none, l, s)
  | .ret (some e), l, s => match r.E e l s with
    | some (v, s) => some (.ret v, l, s)
    | .none => .none
  | .asg t e, l, s => match r.E e l s with
    | some (v, s) => (assign P r t v l s).map fun (l, s) => (.next, l, s)
    | .none => .none
  | .aug x o e, l, s => match o, lget x l with
    | .add, some (.int i) => (match r.E e l s with
      | some (.int j, s) => some (.next, upd x (.int (i + j)) l, s)
      | _ => .none)
    | _, _ => .none
  | .ite c a b, l, s => match r.B c l s with
    | some (true, s) => exB r a l s
    | some (false, s) => exB r b l s
    | .none => .none
  | .while c b, l, s => match r.B c l s with
    | some (false, s) => some (.next, l, s)
    | some (true, s) => match exB r b l s with
      | some (.next, l, s) => r.S (.while c b) l s
      | x => x
    | .none => .none
  | .for t src b, l, s => match srcS r src l s with
    | .none => .none
    | some (.items xs, s) => forL P r t b xs l s
    | some (.place k n, s) => forM P r t b k n 0 l s

def ev (P : Prog) : Nat → Rec
  | 0 => ⟨fun _ _ _ => .none, fun _ _ _ => .none, fun _ _ _ => .none⟩
  | n + 1 => ⟨stepE P (ev P n), stepB P (ev P n), stepS P (ev P n)⟩

end Mux
namespace Mux
open PySem (Expr Stmt Str NameKind Scope Const CmpOp BoolOp UnaryOp Operator Comprehension Arguments Arg)

abbrev Ks := List (Str × NameKind)

def nm : List Str := (["kind", "width", "height", "x", "y", "parts", "pane", "number", "terminal", "rows", "columns", "bells", "title", "is_dead", "options", "name", "panes", "active", "last", "layout", "is_zoomed", "has_bell", "has_activity", "windows", "group", "current",
  "self", "cell", "leaf", "is_rung", "is_seen", "index", "window", "least", "place", "is_current", "is_back", "is_noted", "row", "at", "step", "gone", "behind", "choice", "found", "mates", "goals", "session", "mate", "sessions", "source", "target", "goal", "one", "other", "first", "second",
  "cells", "hand", "below", "world", "own", "table", "later", "tables", "noted", "table_number", "kept", "here", "near", "far", "way", "told", "k", "due", "places", "real", "script", "turn", "part"] : List String).map PySem.Str.ofString
def fnm : List Str := (["layout_leaf", "layout_leaves", "pane_numbered", "renumber_windows", "move_window", "swap_windows", "link_window", "group_of", "_law_draw", "_law_fresh", "_law_settled", "_law_shown", "_law_free", "_law_added", "_law_led", "_law_placed", "_law_next", "_law_moved", "_law_exchanged", "_law_room", "_law_added_right", "_law_deed", "_law_stand", "law"] : List String).map PySem.Str.ofString
def cnm : List Str := (["Cell", "Pane", "Window", "Session"] : List String).map PySem.Str.ofString
/-- methods: class, name; the function's number is 100 + place -/
def mnm : List (Nat × Str) := ([(0, "__init__"), (1, "__init__"), (2, "__init__"), (3, "__init__"), (1, "sized"), (2, "hand_sizes"), (2, "note"), (2, "seen"), (3, "indexes"), (3, "window"), (3, "index_of"), (3, "free_index"), (3, "add"), (3, "select"), (3, "select_last"), (3, "select_next"), (3, "settle"), (3, "take"), (3, "make_room"), (3, "renumbered")] : List (Nat × String)).map fun p => (p.1, PySem.Str.ofString p.2)
def unm : List Str := (["__init__", "sized", "hand_sizes", "note", "seen", "indexes", "window", "index_of", "free_index", "add", "select", "select_last", "select_next", "settle", "take", "make_room", "renumbered"] : List String).map PySem.Str.ofString

def key (s : Str) : Nat := s.cps.toList.foldl (fun n c => n * 256 + c) 1
def findK (k : Nat) : List Str → Nat → Option (Nat × Str)
  | [], _ => none
  | x :: r, i => if key x == k then some (i, x) else findK k r (i + 1)
def codeIn (l : List Str) (s : Str) : Option Nat := match findK (key s) l 0 with
  | some (i, x) => if x = s then some i else none
  | none => none
def code (s : Str) : Option Nat := codeIn nm s
def ofCode (l : List Str) (n : Nat) : Str := l.getD n Str.empty

def cConst : Const → Option V
  | .none => some .none
  | .bool b => some (.bool b)
  | .int i => some (.int i)
  | .str s => (code s).map .str
  | .bytes b => some (.bytes b)
  | _ => none
def cOp : Operator → Option Op
  | .Add => some .add | .Sub => some .sub | .Mult => some .mul | .FloorDiv => some .fdiv | .Mod => some .mod | .Pow => some .pow
  | _ => none
def cCo : CmpOp → Option CO
  | .Eq => some .eq | .NotEq => some .ne | .Lt => some .lt | .Gt => some .gt | .Is => some .is | .IsNot => some .isnot | .In => some .isin | .NotIn => some .notin
  | _ => none
def cBf (s : Str) : Option BF :=
  if s = ("len" : Str) then some .len else if s = ("sorted" : Str) then some .sorted else if s = ("max" : Str) then some .max else if s = ("min" : Str) then some .min
  else if s = ("dict" : Str) then some .dict else if s = ("list" : Str) then some .list else none
def cBm (s : Str) : Option BM :=
  if s = ("pop" : Str) then some .pop else if s = ("get" : Str) then some .get else if s = ("clear" : Str) then some .clear else if s = ("update" : Str) then some .update
  else if s = ("append" : Str) then some .append else if s = ("index" : Str) then some .index else none
def mapO {α β : Type} (f : α → Option β) : List α → Option (List β)
  | [] => some []
  | x :: r => match f x with
    | some y => match mapO f r with
      | some ys => some (y :: ys)
      | none => none
    | none => none
def isStar : Expr → Bool
  | .Starred _ _ => true
  | _ => false
def isSlice : Expr → Bool
  | .Slice _ _ _ _ => true
  | _ => false
def isSetE : Expr → Bool
  | .Set _ _ _ => true
  | _ => false
/-- no call of a bare name without arguments stands as an attribute's base -/
def plainBase : Expr → Bool
  | .Call (.Name _ _) [] [] _ => false
  | _ => true
def relabelK (ks : Ks) (names : Ks) : Ks := names.map fun p => if p.2 = .free ∧ ks.lookup p.1 = some .cell then (p.1, .cell) else p
def isLoc (ks : Ks) (x : Str) : Bool := match ks.lookup x with
  | some .local => true
  | some .cell => true
  | _ => false
def isGlob (ks : Ks) (x : Str) : Bool := match ks.lookup x with
  | some .globalImplicit => true
  | _ => false
def cVar (ks : Ks) (x : Str) : Option Nat := if isLoc ks x then code x else none
def keysO : List (Option Expr) → Option (List Nat)
  | [] => some []
  | some (.Constant (.str s) _ _) :: r => match code s with
    | some c => (keysO r).map (c :: ·)
    | none => none
  | _ :: _ => none
/-- a comprehension's scope: its own locals are its targets alone, no cells of its own -/
def compScopeOk (ks : Ks) (scope : Scope) (vars : List Nat) : Bool :=
  scope.kind = .function && scope.names.all (fun p => match p.2 with
    | .local => (p.1 == (".0" : Str) && scope.names.lookup p.1 = some .local) || (match code p.1 with | some c => vars.contains c && scope.names.lookup p.1 = some .local | none => false)
    | .free => ks.lookup p.1 = some .cell
    | .globalImplicit => true
    | _ => false) && vars.all fun c => scope.names.lookup (ofCode nm c) = some .local

def cSrc (f : Ks → Expr → Option PE) (ks : Ks) : Expr → Option Src
  | .Call (.Name g _) args [] _ =>
    if isGlob ks g && g = ("range" : Str) then (if args.any isStar || args.length > 3 then none else (mapO (f ks) args).map .range)
    else if isGlob ks g && g = ("enumerate" : Str) then (match args with | [e] => if isStar e then none else (f ks e).map .enum | _ => none)
    else (f ks (.Call (.Name g default) args [] default)).map .val
  | e => if isSetE e then none else (f ks e).map .val

mutual
def cTg (f : Ks → Expr → Option PE) (ks : Ks) : Expr → Option Tg
  | .Name x _ => (cVar ks x).map .var
  | .Attribute o a _ => match f ks o, code a with
    | some p, some c => some (.attr p c)
    | _, _ => none
  | .Subscript o i _ => if isSlice i then none else match f ks o, f ks i with
    | some p, some q => some (.idx p q)
    | _, _ => none
  | .Tuple ts _ _ => (cTgs f ks ts).map .tup
  | _ => none
def cTgs (f : Ks → Expr → Option PE) (ks : Ks) : List Expr → Option (List Tg)
  | [] => some []
  | t :: ts => match cTg f ks t, cTgs f ks ts with
    | some p, some ps => some (p :: ps)
    | _, _ => none
end

/-- a pair of targets stands with enumerate alone -/
def tgSrc : Tg → Src → Bool
  | .tup [_, _], .enum _ => true
  | .var _, .val _ => true
  | .var _, .range _ => true
  | _, _ => false
/-- no tuple of mere constant expressions that is not folded -/
def swapOk : Expr → Expr → Bool
  | .Tuple _ _ _, .Tuple vs _ _ => vs.all (PySem.foldedForSure 8) || !vs.all (PySem.constantsAlone 8)
  | _, _ => true

def stepC (f : Ks → Expr → Option PE) (ks : Ks) : Expr → Option PE
  | .Constant c _ _ => (cConst c).map .const
  | .Name x _ => (cVar ks x).map .var
  | .Attribute v a _ => if plainBase v then match f ks v, code a with
    | some p, some c => some (.attr p c)
    | _, _ => none else none
  | .Subscript v (.Slice none (some (.Constant (.int (.ofNat k)) _ _)) none _) _ => (f ks v).map (.upto · k)
  | .Subscript v (.Slice none none (some (.UnaryOp .USub (.Constant (.int 1) _ _) _)) _) _ => (f ks v).map .rev
  | .Subscript v i _ => if isSlice i then none else match f ks v, f ks i with
    | some p, some q => some (.idx p q)
    | _, _ => none
  | .BinOp a o b _ => match f ks a, cOp o, f ks b with
    | some p, some o, some q => some (.bin o p q)
    | _, _, _ => none
  | .UnaryOp .Not e _ => (f ks e).map .not
  | .UnaryOp .USub e _ => (f ks e).map .neg
  | .BoolOp o es _ => (mapO (f ks) es).map (.bop (o == .And))
  | .Compare a [o] [b] _ => if isSetE b then none else match f ks a, cCo o, f ks b with
    | some p, some o, some q => some (.cmp o p q)
    | _, _, _ => none
  | .IfExp c a b _ => match f ks c, f ks a, f ks b with
    | some p, some q, some r => some (.ite p q r)
    | _, _, _ => none
  | .List [] _ => some (.ml [])
  | .List [.Constant (.int i) _ _] _ => some (.ml [.const (.int i)])
  | .List es _ => if es.any isStar then none else (mapO (f ks) es).map .list
  | .Tuple es _ _ => if es.any isStar then none else (mapO (f ks) es).map .tup
  | .Dict [] [] _ => some .dict0
  | .Dict [some (.Name k p)] [v] _ => match f ks (.Name k p), f ks v with
    | some p, some q => some (.dict1 p q)
    | _, _ => none
  | .Dict keys vs _ => if keys.length = vs.length ∧ 1 ≤ vs.length ∧ vs.length ≤ 15 then match keysO keys, mapO (f ks) vs with
    | some ks, some vs => if ks.Nodup then some (.sdict ks vs) else none
    | _, _ => none else none
  | .ListComp elt [⟨t, iter, ifs, 0⟩] scope _ => match cTg f (relabelK ks scope.names) t, cSrc f ks iter, f (relabelK ks scope.names) elt with
    | some t, some s, some e => if compScopeOk ks scope t.vars && tgSrc t s then (match ifs with
      | [] => some (.comp e t s none)
      | [c] => (f (relabelK ks scope.names) c).map fun c => .comp e t s (some c)
      | _ => none) else none
    | _, _, _ => none
  | .Call (.Name g _) args [] _ => if isGlob ks g && !args.any isStar && args.length < 30 then
      (match cBf g with
      | some b => (match args with | [e] => (f ks e).map (.bi b) | _ => none)
      | none => match codeIn cnm g with
        | some c => (mapO (f ks) args).map (.new c)
        | none => match codeIn fnm g with
          | some n => (mapO (f ks) args).map (.call n)
          | none => if g = ("isinstance" : Str) then (match args with
              | [e, .Name b _] => if b = ("bool" : Str) && isGlob ks b then (f ks e).map (.bi .isbool) else none
              | _ => none) else none) else none
  | .Call (.Attribute o m apos) args [] pos => if plainBase o && !args.any isStar && args.length < 30 && apos.endLine == pos.line then
      (match cBm m with
      | some b => match f ks o, mapO (f ks) args with
        | some p, some as => some (.bm b p as)
        | _, _ => none
      | none => match codeIn unm m with
        | none => some .bad
        | some c => match f ks o, mapO (f ks) args with
          | some p, some as => if c = 0 then none else some (.meth p c as)
          | _, _ => none) else none
  | _ => none
def cE : Nat → Ks → Expr → Option PE
  | 0 => fun _ _ => none
  | n + 1 => stepC (cE n)

def isMeth (n : Nat) : Bool := n < 30
def stepCS (f : Ks → Expr → Option PE) (g : Ks → Stmt → Option PS) (ks : Ks) : Stmt → Option PS
  | .Expr e _ => (match e with
    | .ListComp .. => none
    | .SetComp .. => none
    | .DictComp .. => none
    | _ => (f ks e).map .expr)
  | .Return none _ => some (.ret none)
  | .Return (some e) _ => (f ks e).map fun e => .ret (some e)
  | .Assign [t] e _ => match cTg f ks t, f ks e with
    | some p, some q => if swapOk t e then some (.asg p q) else none
    | _, _ => none
  | .AugAssign (.Name x _) o e _ => match cVar ks x, cOp o, f ks e with
    | some x, some o, some e => some (.aug x o e)
    | _, _, _ => none
  | .If c a b _ => match f ks c, mapO (g ks) a, mapO (g ks) b with
    | some c, some a, some b => some (.ite c a b)
    | _, _, _ => none
  | .While c b [] _ => match f ks c, mapO (g ks) b with
    | some c, some b => some (.while c b)
    | _, _ => none
  | .For t s b [] _ => match cTg f ks t, cSrc f ks s, mapO (g ks) b with
    | some t, some s, some b => if tgSrc t s then some (.for t s b) else none
    | _, _, _ => none
  | _ => none
def cS (m : Nat) : Nat → Ks → Stmt → Option PS
  | 0 => fun _ _ => none
  | n + 1 => stepCS (cE m) (cS m n)

def isNoneC : Expr → Bool
  | .Constant .none _ _ => true
  | _ => false
def cFn (a : Arguments) (body : List Stmt) (sc : Scope) : Option Fn :=
  if a.posonlyargs.isEmpty && a.vararg.isNone && a.kwonlyargs.isEmpty && a.kwarg.isNone && sc.kind = .function && !sc.isGenerator && !sc.isCoroutine then
    match mapO (cVar sc.names) (a.args.map (·.arg)), mapO (cS 40 20 sc.names) body with
    | some ps, some b => some ⟨ps, if a.defaults.all isNoneC then a.defaults.length else 0, b⟩
    | _, _ => none
  else none
end Mux
namespace Mux
/-- layout_leaf -/
def N0 : Fn := ⟨[6, 1, 2], 0, [
  .ret (some (.new 0 [.const (.str 6), .var 1, .var 2, .const (.int (0)), .const (.int (0)), .ml [], .var 6]))]⟩
/-- layout_leaves -/
def N1 : Fn := ⟨[27], 0, [
  .ite (.cmp .eq (.attr (.var 27) 0) (.const (.str 6))) [.ret (some (.list [.var 27]))] [],
  .asg (.var 44) (.ml []),
  .for (.var 79) (.val (.attr (.var 27) 5)) [.expr (.bad)],
  .ret (some (.var 44))]⟩
/-- pane_numbered -/
def N2 : Fn := ⟨[16, 7], 0, [
  .for (.var 6) (.val (.var 16)) [.ite (.cmp .eq (.attr (.var 6) 7) (.var 7)) [.ret (some (.var 6))] []],
  .ret (some (.const (V.none)))]⟩
/-- renumber_windows -/
def N3 : Fn := ⟨[49, 33], 0, [
  .asg (.tup [.var 23, .var 46]) (.tup [.attr (.idx (.var 49) (.const (.int (0)))) 23, .dict0]),
  .asg (.var 38) (.comp (.tup [.var 31, .idx (.var 23) (.var 31)]) (.var 31) (.val (.bi .sorted (.var 23))) none),
  .expr (.bm .clear (.var 23) []),
  .for (.tup [.var 39, .tup [.var 31, .var 32]]) (.enum (.var 38)) [.asg (.idx (.var 46) (.var 31)) (.bin .add (.var 33) (.var 39)), .asg (.idx (.var 23) (.bin .add (.var 33) (.var 39))) (.var 32)],
  .for (.var 47) (.val (.var 49)) [.expr (.meth (.var 47) 16 [.var 46])]]⟩
/-- move_window -/
def N4 : Fn := ⟨[50, 31, 51, 52, 33, 35, 45], 0, [
  .ite (.bop false [.cmp .notin (.var 31) (.attr (.var 50) 23), .bop true [.cmp .isnot (.var 52) (.const (V.none)), .cmp .isin (.var 52) (.attr (.var 51) 23)]]) [.ret (some (.const (V.none)))] [],
  .asg (.var 32) (.idx (.attr (.var 50) 23) (.var 31)),
  .ite (.cmp .is (.attr (.var 50) 23) (.attr (.var 51) 23)) [.asg (.var 34) (.ite (.cmp .is (.var 52) (.const (V.none))) (.meth (.var 51) 8 [.var 33]) (.var 52)), .asg (.idx (.attr (.var 51) 23) (.var 34)) (.bm .pop (.attr (.var 51) 23) [.var 31]), .expr (.meth (.var 50) 16 [.dict1 (.var 31) (.var 34)]), .for (.var 47) (.val (.bin .add (.list [.var 51]) (.comp (.var 48) (.var 48) (.val (.var 45)) (some (.cmp .isnot (.var 48) (.var 51)))))) [.ite (.cmp .isnot (.var 47) (.var 50)) [.expr (.meth (.var 47) 16 [.dict1 (.var 31) (.var 34)])] []], .ite (.var 35) [.expr (.meth (.var 51) 10 [.var 34])] [], .ret (some (.var 34))] [],
  .expr (.meth (.var 50) 14 [.var 31]),
  .ret (some (.meth (.var 51) 9 [.var 32, .var 52, .var 33, .var 35]))]⟩
/-- swap_windows -/
def N5 : Fn := ⟨[53, 31, 54, 52], 0, [
  .ite (.bop false [.cmp .notin (.var 31) (.attr (.var 53) 23), .cmp .notin (.var 52) (.attr (.var 54) 23)]) [.ret (some (.const (.bool false)))] [],
  .asg (.tup [.var 55, .var 56]) (.tup [.idx (.attr (.var 53) 23) (.var 31), .idx (.attr (.var 54) 23) (.var 52)]),
  .asg (.idx (.attr (.var 53) 23) (.var 31)) (.var 56),
  .asg (.idx (.attr (.var 54) 23) (.var 52)) (.var 55),
  .ret (some (.const (.bool true)))]⟩
/-- link_window -/
def N6 : Fn := ⟨[32, 51, 52, 33, 35], 0, [
  .ret (some (.meth (.var 51) 9 [.var 32, .var 52, .var 33, .var 35]))]⟩
/-- group_of -/
def N7 : Fn := ⟨[47, 49], 0, [
  .ite (.cmp .is (.attr (.var 47) 24) (.const (V.none))) [.ret (some (.list [.var 47]))] [],
  .ret (some (.comp (.var 48) (.var 48) (.val (.var 49)) (some (.cmp .is (.attr (.var 48) 23) (.attr (.var 47) 23)))))]⟩
/-- _law_draw -/
def N8 : Fn := ⟨[57, 58, 59], 0, [
  .asg (.idx (.var 58) (.const (.int (0)))) (.bin .add (.idx (.var 58) (.const (.int (0)))) (.const (.int (1)))),
  .ite (.cmp .gt (.idx (.var 58) (.const (.int (0)))) (.bi .len (.var 57))) [.ret (some (.bin .mod (.bin .fdiv (.bin .mul (.idx (.var 58) (.const (.int (0)))) (.const (.int (7)))) (.const (.int (3)))) (.var 59)))] [],
  .ret (some (.bin .mod (.idx (.var 57) (.bin .sub (.idx (.var 58) (.const (.int (0)))) (.const (.int (1))))) (.var 59)))]⟩
/-- _law_fresh -/
def N9 : Fn := ⟨[60], 0, [
  .asg (.var 7) (.bi .len (.idx (.var 60) (.const (.str 23)))),
  .expr (.bm .append (.idx (.var 60) (.const (.str 23))) [.new 2 [.var 7, .const (.bytes [119]), .new 1 [.var 7], .const (.int (10)), .const (.int (4))]]),
  .expr (.bm .append (.idx (.var 60) (.const (.str 65))) [.const (.bool false)]),
  .ret (some (.var 7))]⟩
/-- _law_settled -/
def N10 : Fn := ⟨[60, 53], 0, [
  .asg (.var 61) (.idx (.idx (.var 60) (.const (.str 9))) (.var 53)),
  .asg (.var 62) (.idx (.idx (.var 60) (.const (.str 64))) (.idx (.var 61) (.const (.str 62)))),
  .ite (.cmp .notin (.idx (.var 61) (.const (.str 18))) (.var 62)) [.asg (.idx (.var 61) (.const (.str 18))) (.const (V.none))] [],
  .ite (.cmp .isin (.idx (.var 61) (.const (.str 25))) (.var 62)) [.asg (.idx (.var 61) (.const (.str 18))) (.ite (.cmp .eq (.idx (.var 61) (.const (.str 18))) (.idx (.var 61) (.const (.str 25)))) (.const (V.none)) (.idx (.var 61) (.const (.str 18))))] [.ite (.cmp .eq (.var 62) (.dict0)) [.asg (.tup [.idx (.var 61) (.const (.str 25)), .idx (.var 61) (.const (.str 18))]) (.tup [.const (V.none), .const (V.none)])] [.asg (.var 41) (.ite (.cmp .is (.idx (.var 61) (.const (.str 25))) (.const (V.none))) (.neg (.const (.int (1)))) (.idx (.var 61) (.const (.str 25)))), .asg (.var 63) (.bin .add (.comp (.var 31) (.var 31) (.val (.bi .sorted (.var 62))) (some (.cmp .gt (.var 31) (.var 41)))) (.list [.bi .max (.var 62)])), .asg (.tup [.idx (.var 61) (.const (.str 25)), .idx (.var 61) (.const (.str 18))]) (.tup [.ite (.cmp .is (.idx (.var 61) (.const (.str 18))) (.const (V.none))) (.idx (.var 63) (.const (.int (0)))) (.idx (.var 61) (.const (.str 18))), .const (V.none)]), .asg (.idx (.idx (.var 60) (.const (.str 65))) (.idx (.var 62) (.idx (.var 61) (.const (.str 25))))) (.const (.bool false))]]]⟩
/-- _law_shown -/
def N11 : Fn := ⟨[60, 53, 31], 0, [
  .asg (.var 61) (.idx (.idx (.var 60) (.const (.str 9))) (.var 53)),
  .asg (.var 62) (.idx (.idx (.var 60) (.const (.str 64))) (.idx (.var 61) (.const (.str 62)))),
  .ite (.cmp .notin (.var 31) (.var 62)) [.ret (some (.const (.bool false)))] [],
  .expr (.call 10 [.var 60, .var 53]),
  .ite (.cmp .ne (.var 31) (.idx (.var 61) (.const (.str 25)))) [.asg (.tup [.idx (.var 61) (.const (.str 25)), .idx (.var 61) (.const (.str 18))]) (.tup [.var 31, .idx (.var 61) (.const (.str 25))])] [],
  .asg (.idx (.idx (.var 60) (.const (.str 65))) (.idx (.var 62) (.var 31))) (.const (.bool false)),
  .ret (some (.const (.bool true)))]⟩
/-- _law_free -/
def N12 : Fn := ⟨[62, 33], 0, [
  .ret (some (.idx (.comp (.var 31) (.var 31) (.range [.var 33, .bin .add (.bin .add (.var 33) (.bi .len (.var 62))) (.const (.int (1)))]) (some (.cmp .notin (.var 31) (.var 62)))) (.const (.int (0)))))]⟩
/-- _law_added -/
def N13 : Fn := ⟨[60, 53, 7, 31, 33, 35], 0, [
  .asg (.var 61) (.idx (.idx (.var 60) (.const (.str 9))) (.var 53)),
  .asg (.var 62) (.idx (.idx (.var 60) (.const (.str 64))) (.idx (.var 61) (.const (.str 62)))),
  .asg (.var 34) (.ite (.cmp .is (.var 31) (.const (V.none))) (.call 12 [.var 62, .var 33]) (.var 31)),
  .ite (.cmp .isin (.var 34) (.var 62)) [.ret (some (.const (V.none)))] [],
  .asg (.idx (.var 62) (.var 34)) (.var 7),
  .ite (.bop false [.var 35, .cmp .is (.idx (.var 61) (.const (.str 25))) (.const (V.none))]) [.expr (.call 11 [.var 60, .var 53, .var 34])] [],
  .ret (some (.var 34))]⟩
/-- _law_led -/
def N14 : Fn := ⟨[60, 66, 46], 0, [
  .for (.var 61) (.val (.idx (.var 60) (.const (.str 9)))) [.ite (.cmp .eq (.idx (.var 61) (.const (.str 62))) (.var 66)) [.asg (.idx (.var 61) (.const (.str 25))) (.bm .get (.var 46) [.idx (.var 61) (.const (.str 25)), .idx (.var 61) (.const (.str 25))]), .asg (.idx (.var 61) (.const (.str 18))) (.bm .get (.var 46) [.idx (.var 61) (.const (.str 18)), .idx (.var 61) (.const (.str 18))])] []]]⟩
/-- _law_placed -/
def N15 : Fn := ⟨[60, 66, 46], 0, [
  .asg (.var 62) (.idx (.idx (.var 60) (.const (.str 64))) (.var 66)),
  .asg (.var 67) (.comp (.tup [.bm .get (.var 46) [.var 31, .var 31], .idx (.var 62) (.var 31)]) (.var 31) (.val (.bi .sorted (.var 62))) none),
  .expr (.bm .clear (.var 62) []),
  .expr (.bm .update (.var 62) [.bi .dict (.var 67)]),
  .expr (.call 14 [.var 60, .var 66, .var 46])]⟩
/-- _law_next -/
def N16 : Fn := ⟨[60, 53, 36, 37], 0, [
  .asg (.var 61) (.idx (.idx (.var 60) (.const (.str 9))) (.var 53)),
  .asg (.tup [.var 62, .var 68]) (.tup [.idx (.idx (.var 60) (.const (.str 64))) (.idx (.var 61) (.const (.str 62))), .idx (.var 61) (.const (.str 25))]),
  .ite (.cmp .is (.var 68) (.const (V.none))) [.ret (some (.const (.bool false)))] [],
  .asg (.var 38) (.bin .add (.comp (.var 31) (.var 31) (.val (.bi .sorted (.var 62))) (some (.cmp .gt (.var 31) (.var 68)))) (.comp (.var 31) (.var 31) (.val (.bi .sorted (.var 62))) (some (.cmp .lt (.var 31) (.var 68))))),
  .asg (.var 38) (.comp (.var 31) (.var 31) (.val (.ite (.var 36) (.rev (.var 38)) (.var 38))) (some (.bop false [.not (.var 37), .idx (.idx (.var 60) (.const (.str 65))) (.idx (.var 62) (.var 31))]))),
  .ret (some (.bop true [.cmp .ne (.var 38) (.ml []), .call 11 [.var 60, .var 53, .idx (.var 38) (.const (.int (0)))]]))]⟩
/-- _law_moved -/
def N17 : Fn := ⟨[60, 53, 31, 54, 52, 33, 35], 0, [
  .asg (.tup [.var 69, .var 70]) (.tup [.idx (.idx (.idx (.var 60) (.const (.str 9))) (.var 53)) (.const (.str 62)), .idx (.idx (.idx (.var 60) (.const (.str 9))) (.var 54)) (.const (.str 62))]),
  .ite (.bop false [.cmp .notin (.var 31) (.idx (.idx (.var 60) (.const (.str 64))) (.var 69)), .cmp .isin (.var 52) (.idx (.idx (.var 60) (.const (.str 64))) (.var 70))]) [.ret (some (.const (V.none)))] [],
  .ite (.cmp .ne (.var 69) (.var 70)) [.asg (.var 7) (.bm .pop (.idx (.idx (.var 60) (.const (.str 64))) (.var 69)) [.var 31]), .expr (.call 10 [.var 60, .var 53]), .ret (some (.call 13 [.var 60, .var 54, .var 7, .var 52, .var 33, .var 35]))] [],
  .asg (.var 34) (.ite (.cmp .is (.var 52) (.const (V.none))) (.call 12 [.idx (.idx (.var 60) (.const (.str 64))) (.var 69), .var 33]) (.var 52)),
  .expr (.call 15 [.var 60, .var 69, .dict1 (.var 31) (.var 34)]),
  .ite (.var 35) [.expr (.call 11 [.var 60, .var 54, .var 34])] [],
  .ret (some (.var 34))]⟩
/-- _law_exchanged -/
def N18 : Fn := ⟨[60, 53, 31, 54, 52], 0, [
  .asg (.tup [.var 69, .var 70]) (.tup [.idx (.idx (.var 60) (.const (.str 64))) (.idx (.idx (.idx (.var 60) (.const (.str 9))) (.var 53)) (.const (.str 62))), .idx (.idx (.var 60) (.const (.str 64))) (.idx (.idx (.idx (.var 60) (.const (.str 9))) (.var 54)) (.const (.str 62)))]),
  .ite (.bop false [.cmp .notin (.var 31) (.var 69), .cmp .notin (.var 52) (.var 70)]) [.ret (some (.const (.bool false)))] [],
  .asg (.tup [.idx (.var 69) (.var 31), .idx (.var 70) (.var 52)]) (.tup [.idx (.var 70) (.var 52), .idx (.var 69) (.var 31)]),
  .ret (some (.const (.bool true)))]⟩
/-- _law_room -/
def N19 : Fn := ⟨[60, 53, 31], 0, [
  .asg (.tup [.var 62, .var 42]) (.tup [.idx (.idx (.var 60) (.const (.str 64))) (.idx (.idx (.idx (.var 60) (.const (.str 9))) (.var 53)) (.const (.str 62))), .var 31]),
  .while (.cmp .isin (.var 42) (.var 62)) [.asg (.var 42) (.bin .add (.var 42) (.const (.int (1))))],
  .expr (.call 15 [.var 60, .idx (.idx (.idx (.var 60) (.const (.str 9))) (.var 53)) (.const (.str 62)), .bi .dict (.comp (.tup [.var 34, .bin .add (.var 34) (.const (.int (1)))]) (.var 34) (.range [.var 31, .var 42]) none)])]⟩
/-- _law_added_right -/
def N20 : Fn := ⟨[57, 58, 60, 53, 54], 0, [
  .asg (.tup [.var 71, .var 31, .var 33]) (.tup [.call 8 [.var 57, .var 58, .const (.int (3))], .call 8 [.var 57, .var 58, .const (.int (6))], .call 8 [.var 57, .var 58, .const (.int (3))]]),
  .asg (.tup [.var 52, .var 35]) (.tup [.idx (.list [.const (V.none), .call 8 [.var 57, .var 58, .const (.int (5))]]) (.call 8 [.var 57, .var 58, .const (.int (2))]), .cmp .eq (.call 8 [.var 57, .var 58, .const (.int (2))]) (.const (.int (0)))]),
  .asg (.tup [.var 47, .var 51]) (.tup [.idx (.idx (.var 60) (.const (.str 49))) (.var 53), .idx (.idx (.var 60) (.const (.str 49))) (.var 54)]),
  .asg (.var 62) (.idx (.idx (.var 60) (.const (.str 64))) (.idx (.idx (.idx (.var 60) (.const (.str 9))) (.var 53)) (.const (.str 62)))),
  .ite (.cmp .eq (.var 71) (.const (.int (0)))) [.asg (.var 7) (.call 9 [.var 60]), .asg (.var 72) (.meth (.var 51) 9 [.idx (.idx (.var 60) (.const (.str 23))) (.var 7), .var 52, .var 33, .var 35]), .ret (some (.tup [.var 72, .call 13 [.var 60, .var 54, .var 7, .var 52, .var 33, .var 35]]))] [],
  .ite (.bop true [.cmp .eq (.var 71) (.const (.int (1))), .cmp .isin (.var 31) (.var 62)]) [.asg (.var 7) (.idx (.var 62) (.var 31)), .asg (.var 72) (.call 6 [.idx (.idx (.var 60) (.const (.str 23))) (.var 7), .var 51, .var 52, .var 33, .var 35]), .ret (some (.tup [.var 72, .call 13 [.var 60, .var 54, .var 7, .var 52, .var 33, .var 35]]))] [],
  .asg (.var 45) (.call 7 [.var 47, .idx (.var 60) (.const (.str 49))]),
  .asg (.var 72) (.call 4 [.var 47, .var 31, .var 51, .var 52, .var 33, .var 35, .var 45]),
  .ret (some (.tup [.var 72, .call 17 [.var 60, .var 53, .var 31, .var 54, .var 52, .var 33, .var 35]]))]⟩
/-- _law_deed -/
def N21 : Fn := ⟨[57, 58, 60], 0, [
  .asg (.tup [.var 53, .var 54, .var 71]) (.tup [.call 8 [.var 57, .var 58, .const (.int (3))], .call 8 [.var 57, .var 58, .const (.int (3))], .call 8 [.var 57, .var 58, .const (.int (11))]]),
  .asg (.tup [.var 47, .var 61]) (.tup [.idx (.idx (.var 60) (.const (.str 49))) (.var 53), .idx (.idx (.var 60) (.const (.str 9))) (.var 53)]),
  .asg (.tup [.var 62, .var 45]) (.tup [.idx (.idx (.var 60) (.const (.str 64))) (.idx (.var 61) (.const (.str 62))), .call 7 [.var 47, .idx (.var 60) (.const (.str 49))]]),
  .ite (.cmp .lt (.var 71) (.const (.int (3)))) [.ret (some (.call 20 [.var 57, .var 58, .var 60, .var 53, .var 54]))] [],
  .ite (.cmp .eq (.var 71) (.const (.int (5)))) [.ret (some (.tup [.meth (.var 47) 11 [], .bop true [.cmp .isnot (.idx (.var 61) (.const (.str 18))) (.const (V.none)), .call 11 [.var 60, .var 53, .idx (.var 61) (.const (.str 18))]]]))] [],
  .ite (.cmp .eq (.var 71) (.const (.int (6)))) [.asg (.tup [.var 36, .var 37]) (.tup [.cmp .eq (.call 8 [.var 57, .var 58, .const (.int (2))]) (.const (.int (1))), .cmp .eq (.call 8 [.var 57, .var 58, .const (.int (2))]) (.const (.int (1)))]), .ret (some (.tup [.meth (.var 47) 12 [.var 36, .var 37], .call 16 [.var 60, .var 53, .var 36, .var 37]]))] [],
  .asg (.var 31) (.call 8 [.var 57, .var 58, .const (.int (6))]),
  .ite (.cmp .eq (.var 71) (.const (.int (3)))) [.ret (some (.tup [.meth (.var 47) 10 [.var 31], .call 11 [.var 60, .var 53, .var 31]]))] [],
  .ite (.cmp .eq (.var 71) (.const (.int (4)))) [.asg (.tup [.var 44, .var 7]) (.tup [.meth (.var 47) 14 [.var 31], .bm .pop (.var 62) [.var 31, .const (V.none)]]), .expr (.call 10 [.var 60, .var 53]), .ret (some (.tup [.ite (.cmp .is (.var 44) (.const (V.none))) (.const (V.none)) (.attr (.var 44) 7), .var 7]))] [],
  .ite (.cmp .eq (.var 71) (.const (.int (7)))) [.expr (.meth (.var 47) 15 [.var 31, .comp (.var 48) (.var 48) (.val (.var 45)) (some (.cmp .isnot (.var 48) (.var 47)))]), .expr (.call 19 [.var 60, .var 53, .var 31]), .ret (some (.tup [.const (.int (0)), .const (.int (0))]))] [],
  .ite (.cmp .eq (.var 71) (.const (.int (8)))) [.expr (.call 3 [.var 45, .var 31]), .expr (.call 15 [.var 60, .idx (.var 61) (.const (.str 62)), .bi .dict (.comp (.tup [.var 34, .bin .add (.var 31) (.var 73)]) (.tup [.var 73, .var 34]) (.enum (.bi .sorted (.var 62))) none)]), .ret (some (.tup [.const (.int (0)), .const (.int (0))]))] [],
  .ite (.cmp .eq (.var 71) (.const (.int (9)))) [.asg (.var 52) (.call 8 [.var 57, .var 58, .const (.int (6))]), .asg (.var 72) (.call 5 [.var 47, .var 31, .idx (.idx (.var 60) (.const (.str 49))) (.var 54), .var 52]), .ret (some (.tup [.var 72, .call 18 [.var 60, .var 53, .var 31, .var 54, .var 52]]))] [],
  .asg (.tup [.var 7, .var 29]) (.tup [.bin .mod (.var 31) (.bi .len (.idx (.var 60) (.const (.str 23)))), .cmp .eq (.call 8 [.var 57, .var 58, .const (.int (2))]) (.const (.int (1)))]),
  .asg (.var 30) (.cmp .eq (.call 8 [.var 57, .var 58, .const (.int (3))]) (.const (.int (0)))),
  .expr (.meth (.idx (.idx (.var 60) (.const (.str 23))) (.var 7)) 3 [.var 29, .var 30]),
  .asg (.idx (.idx (.var 60) (.const (.str 65))) (.var 7)) (.bop false [.idx (.idx (.var 60) (.const (.str 65))) (.var 7), .not (.var 30)]),
  .asg (.var 75) (.comp (.var 34) (.var 34) (.val (.bi .sorted (.var 62))) (some (.cmp .eq (.idx (.var 62) (.var 34)) (.var 7)))),
  .asg (.var 74) (.tup [.ite (.cmp .ne (.var 75) (.ml [])) (.idx (.var 75) (.const (.int (0)))) (.const (V.none)), .call 12 [.var 62, .var 31]]),
  .ret (some (.tup [.tup [.meth (.var 47) 7 [.idx (.idx (.var 60) (.const (.str 23))) (.var 7)], .meth (.var 47) 8 [.var 31]], .var 74]))]⟩
/-- _law_stand -/
def N22 : Fn := ⟨[60], 0, [
  .for (.tup [.var 53, .var 47]) (.enum (.idx (.var 60) (.const (.str 49)))) [.expr (.call 10 [.var 60, .var 53]), .asg (.tup [.var 61, .var 44]) (.tup [.idx (.idx (.var 60) (.const (.str 9))) (.var 53), .meth (.var 47) 6 []]), .asg (.tup [.var 62, .var 76]) (.tup [.idx (.idx (.var 60) (.const (.str 64))) (.idx (.var 61) (.const (.str 62))), .idx (.idx (.var 60) (.const (.str 76))) (.idx (.var 61) (.const (.str 62)))]), .ite (.cmp .ne (.ite (.cmp .is (.var 44) (.const (V.none))) (.const (V.none)) (.attr (.var 44) 7)) (.bm .get (.var 62) [.idx (.var 61) (.const (.str 25))])) [.ret (some (.const (.bool false)))] [], .ite (.bop false [.cmp .ne (.tup [.attr (.var 47) 25, .attr (.var 47) 18]) (.tup [.idx (.var 61) (.const (.str 25)), .idx (.var 61) (.const (.str 18))]), .cmp .ne (.bi .list (.meth (.var 47) 5 [])) (.bi .sorted (.var 62))]) [.ret (some (.const (.bool false)))] [], .ite (.cmp .ne (.comp (.attr (.idx (.var 76) (.var 31)) 7) (.var 31) (.val (.bi .sorted (.var 76))) none) (.comp (.idx (.var 62) (.var 31)) (.var 31) (.val (.bi .sorted (.var 62))) none)) [.ret (some (.const (.bool false)))] []],
  .ret (some (.cmp .eq (.comp (.bop false [.attr (.var 32) 21, .attr (.var 32) 22]) (.var 32) (.val (.idx (.var 60) (.const (.str 23)))) none) (.idx (.var 60) (.const (.str 65)))))]⟩
/-- law -/
def N23 : Fn := ⟨[77], 0, [
  .asg (.tup [.var 57, .var 58]) (.tup [.comp (.bin .mod (.var 27) (.bin .pow (.const (.int (10))) (.const (.int (6))))) (.var 27) (.val (.upto (.var 77) 60)) none, .ml [.const (.int (0))]]),
  .asg (.var 60) (.sdict [23, 65, 64, 76, 9] [.ml [], .ml [], .list [.dict0, .dict0], .list [.dict0, .dict0], .ml []]),
  .for (.var 73) (.range [.const (.int (2))]) [.for (.var 31) (.range [.const (.int (4))]) [.ite (.cmp .eq (.call 8 [.var 57, .var 58, .const (.int (2))]) (.const (.int (1)))) [.asg (.var 7) (.call 9 [.var 60]), .asg (.tup [.idx (.idx (.idx (.var 60) (.const (.str 64))) (.var 73)) (.var 31), .idx (.idx (.idx (.var 60) (.const (.str 76))) (.var 73)) (.var 31)]) (.tup [.var 7, .idx (.idx (.var 60) (.const (.str 23))) (.var 7)])] []]],
  .ite (.cmp .eq (.idx (.var 60) (.const (.str 23))) (.ml [])) [.asg (.var 7) (.call 9 [.var 60]), .asg (.tup [.idx (.idx (.idx (.var 60) (.const (.str 64))) (.const (.int (1)))) (.const (.int (3))), .idx (.idx (.idx (.var 60) (.const (.str 76))) (.const (.int (1)))) (.const (.int (3)))]) (.tup [.var 7, .idx (.idx (.var 60) (.const (.str 23))) (.var 7)])] [],
  .asg (.var 76) (.idx (.var 60) (.const (.str 76))),
  .asg (.idx (.var 60) (.const (.str 49))) (.list [.new 3 [.const (.int (0)), .const (.bytes [97]), .idx (.var 76) (.const (.int (0))), .const (.bytes [103])], .new 3 [.const (.int (1)), .const (.bytes [98]), .idx (.var 76) (.const (.int (0))), .const (.bytes [103])], .new 3 [.const (.int (2)), .const (.bytes [99]), .idx (.var 76) (.const (.int (1)))]]),
  .for (.var 66) (.val (.tup [.const (.int (0)), .const (.int (0)), .const (.int (1))])) [.asg (.var 55) (.bin .add (.bi .sorted (.idx (.idx (.var 60) (.const (.str 64))) (.var 66))) (.list [.const (V.none)])), .expr (.bm .append (.idx (.var 60) (.const (.str 9))) [.sdict [62, 25, 18] [.var 66, .idx (.var 55) (.const (.int (0))), .const (V.none)]])],
  .ite (.not (.call 22 [.var 60])) [.ret (some (.const (.bool false)))] [],
  .for (.var 78) (.range [.call 8 [.var 57, .var 58, .const (.int (7))]]) [.asg (.tup [.var 72, .var 74]) (.call 21 [.var 57, .var 58, .var 60]), .ite (.bop false [.cmp .ne (.var 72) (.var 74), .cmp .ne (.bi .isbool (.var 72)) (.bi .isbool (.var 74)), .not (.call 22 [.var 60])]) [.ret (some (.const (.bool false)))] []],
  .ret (some (.const (.bool true)))]⟩
/-- Cell.__init__ -/
def N100 : Fn := ⟨[26, 0, 1, 2, 3, 4, 5, 6], 0, [
  .asg (.attr (.var 26) 0) (.var 0),
  .asg (.attr (.var 26) 1) (.var 1),
  .asg (.attr (.var 26) 2) (.var 2),
  .asg (.attr (.var 26) 3) (.var 3),
  .asg (.attr (.var 26) 4) (.var 4),
  .asg (.attr (.var 26) 5) (.var 5),
  .asg (.attr (.var 26) 6) (.var 6)]⟩
/-- Pane.__init__ -/
def N101 : Fn := ⟨[26, 7, 8], 1, [
  .asg (.attr (.var 26) 7) (.var 7),
  .asg (.attr (.var 26) 8) (.var 8),
  .asg (.attr (.var 26) 9) (.const (.int (0))),
  .asg (.attr (.var 26) 10) (.const (.int (0))),
  .asg (.attr (.var 26) 11) (.const (.int (0))),
  .asg (.attr (.var 26) 12) (.const (.bytes [])),
  .asg (.attr (.var 26) 13) (.const (.bool false)),
  .asg (.attr (.var 26) 14) (.const (V.none))]⟩
/-- Window.__init__ -/
def N102 : Fn := ⟨[26, 7, 15, 6, 1, 2], 0, [
  .asg (.attr (.var 26) 7) (.var 7),
  .asg (.attr (.var 26) 15) (.var 15),
  .asg (.attr (.var 26) 16) (.list [.var 6]),
  .asg (.attr (.var 26) 17) (.var 6),
  .asg (.attr (.var 26) 18) (.const (V.none)),
  .asg (.attr (.var 26) 19) (.call 0 [.attr (.var 6) 7, .var 1, .var 2]),
  .asg (.attr (.var 26) 20) (.const (.bool false)),
  .asg (.attr (.var 26) 21) (.const (.bool false)),
  .asg (.attr (.var 26) 22) (.const (.bool false)),
  .asg (.attr (.var 26) 14) (.const (V.none)),
  .expr (.meth (.var 26) 2 [])]⟩
/-- Session.__init__ -/
def N103 : Fn := ⟨[26, 7, 15, 23, 24], 2, [
  .asg (.attr (.var 26) 7) (.var 7),
  .asg (.attr (.var 26) 15) (.var 15),
  .asg (.attr (.var 26) 23) (.ite (.cmp .is (.var 23) (.const (V.none))) (.dict0) (.var 23)),
  .asg (.attr (.var 26) 24) (.var 24),
  .asg (.attr (.var 26) 14) (.const (V.none)),
  .asg (.attr (.var 26) 18) (.const (V.none)),
  .asg (.attr (.var 26) 25) (.ite (.cmp .gt (.bi .len (.attr (.var 26) 23)) (.const (.int (0)))) (.bi .min (.attr (.var 26) 23)) (.const (V.none)))]⟩
/-- Pane.sized -/
def N104 : Fn := ⟨[26, 9, 10], 0, [
  .ite (.cmp .eq (.tup [.var 9, .var 10]) (.tup [.attr (.var 26) 9, .attr (.var 26) 10])) [.ret (some (.const (.bool false)))] [],
  .asg (.tup [.attr (.var 26) 9, .attr (.var 26) 10]) (.tup [.var 9, .var 10]),
  .ite (.cmp .isnot (.attr (.var 26) 8) (.const (V.none))) [.expr (.bad)] [],
  .ret (some (.const (.bool true)))]⟩
/-- Window.hand_sizes -/
def N105 : Fn := ⟨[26], 0, [
  .for (.var 28) (.val (.call 1 [.attr (.var 26) 19])) [.asg (.var 6) (.call 2 [.attr (.var 26) 16, .attr (.var 28) 6]), .ite (.bop true [.attr (.var 26) 20, .cmp .is (.var 6) (.attr (.var 26) 17)]) [.expr (.meth (.var 6) 1 [.attr (.attr (.var 26) 19) 2, .attr (.attr (.var 26) 19) 1])] [.expr (.meth (.var 6) 1 [.attr (.var 28) 2, .attr (.var 28) 1])]]]⟩
/-- Window.note -/
def N106 : Fn := ⟨[26, 29, 30], 0, [
  .ite (.not (.var 30)) [.asg (.attr (.var 26) 22) (.const (.bool true)), .asg (.attr (.var 26) 21) (.bop false [.attr (.var 26) 21, .var 29])] []]⟩
/-- Window.seen -/
def N107 : Fn := ⟨[26], 0, [
  .asg (.attr (.var 26) 21) (.const (.bool false)),
  .asg (.attr (.var 26) 22) (.const (.bool false))]⟩
/-- Session.indexes -/
def N108 : Fn := ⟨[26], 0, [
  .ret (some (.bi .sorted (.attr (.var 26) 23)))]⟩
/-- Session.window -/
def N109 : Fn := ⟨[26], 0, [
  .expr (.meth (.var 26) 13 []),
  .ret (some (.ite (.cmp .is (.attr (.var 26) 25) (.const (V.none))) (.const (V.none)) (.idx (.attr (.var 26) 23) (.attr (.var 26) 25))))]⟩
/-- Session.index_of -/
def N110 : Fn := ⟨[26, 32], 0, [
  .for (.var 31) (.val (.meth (.var 26) 5 [])) [.ite (.cmp .is (.idx (.attr (.var 26) 23) (.var 31)) (.var 32)) [.ret (some (.var 31))] []],
  .ret (some (.const (V.none)))]⟩
/-- Session.free_index -/
def N111 : Fn := ⟨[26, 33], 0, [
  .while (.cmp .isin (.var 33) (.attr (.var 26) 23)) [.aug 33 .add (.const (.int (1)))],
  .ret (some (.var 33))]⟩
/-- Session.add -/
def N112 : Fn := ⟨[26, 32, 31, 33, 35], 0, [
  .asg (.var 34) (.ite (.cmp .is (.var 31) (.const (V.none))) (.meth (.var 26) 8 [.var 33]) (.var 31)),
  .ite (.cmp .isin (.var 34) (.attr (.var 26) 23)) [.ret (some (.const (V.none)))] [],
  .asg (.idx (.attr (.var 26) 23) (.var 34)) (.var 32),
  .ite (.bop false [.var 35, .cmp .is (.attr (.var 26) 25) (.const (V.none))]) [.expr (.meth (.var 26) 10 [.var 34])] [],
  .ret (some (.var 34))]⟩
/-- Session.select -/
def N113 : Fn := ⟨[26, 31], 0, [
  .ite (.cmp .notin (.var 31) (.attr (.var 26) 23)) [.ret (some (.const (.bool false)))] [],
  .expr (.meth (.var 26) 13 []),
  .ite (.cmp .ne (.var 31) (.attr (.var 26) 25)) [.asg (.attr (.var 26) 18) (.attr (.var 26) 25), .asg (.attr (.var 26) 25) (.var 31)] [],
  .expr (.meth (.idx (.attr (.var 26) 23) (.var 31)) 4 []),
  .ret (some (.const (.bool true)))]⟩
/-- Session.select_last -/
def N114 : Fn := ⟨[26], 0, [
  .expr (.meth (.var 26) 13 []),
  .ret (some (.bop true [.cmp .isnot (.attr (.var 26) 18) (.const (V.none)), .meth (.var 26) 10 [.attr (.var 26) 18]]))]⟩
/-- Session.select_next -/
def N115 : Fn := ⟨[26, 36, 37], 0, [
  .expr (.meth (.var 26) 13 []),
  .asg (.var 38) (.meth (.var 26) 5 []),
  .ite (.cmp .is (.attr (.var 26) 25) (.const (V.none))) [.ret (some (.const (.bool false)))] [],
  .asg (.var 39) (.bm .index (.var 38) [.attr (.var 26) 25]),
  .for (.var 40) (.range [.const (.int (1)), .bi .len (.var 38)]) [.asg (.var 31) (.idx (.var 38) (.bin .mod (.ite (.var 36) (.bin .sub (.var 39) (.var 40)) (.bin .add (.var 39) (.var 40))) (.bi .len (.var 38)))), .asg (.var 32) (.idx (.attr (.var 26) 23) (.var 31)), .ite (.bop false [.not (.var 37), .attr (.var 32) 21, .attr (.var 32) 22]) [.ret (some (.meth (.var 26) 10 [.var 31]))] []],
  .ret (some (.const (.bool false)))]⟩
/-- Session.settle -/
def N116 : Fn := ⟨[26], 0, [
  .ite (.bop true [.cmp .isnot (.attr (.var 26) 18) (.const (V.none)), .cmp .notin (.attr (.var 26) 18) (.attr (.var 26) 23)]) [.asg (.attr (.var 26) 18) (.const (V.none))] [],
  .ite (.cmp .isin (.attr (.var 26) 25) (.attr (.var 26) 23)) [.ite (.cmp .eq (.attr (.var 26) 18) (.attr (.var 26) 25)) [.asg (.attr (.var 26) 18) (.const (V.none))] [], .ret none] [],
  .asg (.tup [.var 41, .var 38]) (.tup [.ite (.cmp .is (.attr (.var 26) 25) (.const (V.none))) (.neg (.const (.int (1)))) (.attr (.var 26) 25), .meth (.var 26) 5 []]),
  .asg (.attr (.var 26) 25) (.const (V.none)),
  .ite (.cmp .ne (.var 38) (.ml [])) [.asg (.var 42) (.comp (.var 31) (.var 31) (.val (.var 38)) (some (.cmp .gt (.var 31) (.var 41)))), .asg (.var 43) (.ite (.cmp .ne (.var 42) (.ml [])) (.idx (.var 42) (.const (.int (0)))) (.idx (.var 38) (.neg (.const (.int (1)))))), .asg (.attr (.var 26) 25) (.ite (.cmp .is (.attr (.var 26) 18) (.const (V.none))) (.var 43) (.attr (.var 26) 18)), .expr (.meth (.idx (.attr (.var 26) 23) (.attr (.var 26) 25)) 4 [])] [],
  .asg (.attr (.var 26) 18) (.const (V.none))]⟩
/-- Session.take -/
def N117 : Fn := ⟨[26, 31], 0, [
  .asg (.var 44) (.bm .pop (.attr (.var 26) 23) [.var 31, .const (V.none)]),
  .expr (.meth (.var 26) 13 []),
  .ret (some (.var 44))]⟩
/-- Session.make_room -/
def N118 : Fn := ⟨[26, 31, 45], 0, [
  .asg (.var 46) (.dict0),
  .for (.var 34) (.range [.bin .sub (.meth (.var 26) 8 [.var 31]) (.const (.int (1))), .bin .sub (.var 31) (.const (.int (1))), .neg (.const (.int (1)))]) [.asg (.idx (.attr (.var 26) 23) (.bin .add (.var 34) (.const (.int (1))))) (.bm .pop (.attr (.var 26) 23) [.var 34]), .asg (.idx (.var 46) (.var 34)) (.bin .add (.var 34) (.const (.int (1))))],
  .for (.var 47) (.val (.bin .add (.list [.var 26]) (.comp (.var 48) (.var 48) (.val (.var 45)) (some (.cmp .isnot (.var 48) (.var 26)))))) [.expr (.meth (.var 47) 16 [.var 46])]]⟩
/-- Session.renumbered -/
def N119 : Fn := ⟨[26, 46], 0, [
  .asg (.attr (.var 26) 25) (.bm .get (.var 46) [.attr (.var 26) 25, .attr (.var 26) 25]),
  .asg (.attr (.var 26) 18) (.bm .get (.var 46) [.attr (.var 26) 18, .attr (.var 26) 18])]⟩
def fnsT : List (Nat × Fn) := [(0, N0), (1, N1), (2, N2), (3, N3), (4, N4), (5, N5), (6, N6), (7, N7), (8, N8), (9, N9), (10, N10), (11, N11), (12, N12), (13, N13), (14, N14), (15, N15), (16, N16), (17, N17), (18, N18), (19, N19), (20, N20), (21, N21), (22, N22), (23, N23),
  (100, N100), (101, N101), (102, N102), (103, N103), (104, N104), (105, N105), (106, N106), (107, N107), (108, N108), (109, N109), (110, N110), (111, N111), (112, N112), (113, N113), (114, N114), (115, N115), (116, N116), (117, N117), (118, N118), (119, N119)]
/-- class, method's code, function -/
def P : Prog where
  fn := fun n => match n with
    | 0 => some N0 | 1 => some N1 | 2 => some N2 | 3 => some N3 | 4 => some N4 | 5 => some N5 | 6 => some N6 | 7 => some N7 | 8 => some N8 | 9 => some N9 | 10 => some N10 | 11 => some N11 | 12 => some N12 | 13 => some N13 | 14 => some N14 | 15 => some N15 | 16 => some N16
    | 17 => some N17 | 18 => some N18 | 19 => some N19 | 20 => some N20 | 21 => some N21 | 22 => some N22 | 23 => some N23
    | 100 => some N100 | 101 => some N101 | 102 => some N102 | 103 => some N103 | 104 => some N104 | 105 => some N105 | 106 => some N106 | 107 => some N107 | 108 => some N108 | 109 => some N109 | 110 => some N110 | 111 => some N111 | 112 => some N112 | 113 => some N113 | 114 => some N114
    | 115 => some N115 | 116 => some N116 | 117 => some N117 | 118 => some N118 | 119 => some N119 | _ => none
  meth := fun c m => match c, m with
    | 1, 1 => some 104 | 2, 2 => some 105 | 2, 3 => some 106 | 2, 4 => some 107
    | 3, 5 => some 108 | 3, 6 => some 109 | 3, 7 => some 110 | 3, 8 => some 111 | 3, 9 => some 112 | 3, 10 => some 113 | 3, 11 => some 114 | 3, 12 => some 115 | 3, 13 => some 116 | 3, 14 => some 117 | 3, 15 => some 118 | 3, 16 => some 119
    | _, _ => none
  init := fun c => match c with | 0 => some 100 | 1 => some 101 | 2 => some 102 | 3 => some 103 | _ => none
  attr := fun c a => match c with
    | 0 => [0, 1, 2, 3, 4, 5, 6].contains a
    | 1 => [7, 8, 9, 10, 11, 12, 13, 14].contains a
    | 2 => [7, 15, 16, 17, 18, 19, 20, 21, 22, 14].contains a
    | 3 => [7, 15, 23, 24, 14, 18, 25].contains a
    | _ => false
def st0 : St := ⟨[], [], [], [], [], [], []⟩
end Mux
namespace Mux
open PySem PySem.W

/-! a kind of keys: ints and None -/
def isOI : Option Int → Value → Bool
  | some k, v => Value.isInt k v
  | none, .none => true
  | none, _ => false
theorem isOI_some {k : Int} {v : Value} (h : isOI (some k) v = true) : ∃ t, v = .int k t := Value.isInt_shape h
theorem isOI_none {v : Value} (h : isOI none v = true) : v = .none := by cases v <;> first | rfl | cases h
def hashOI : Option Int → Int
  | some k => hashInt k
  | none => reduceHash 0xFCA86420

section
variable {prog : Program} {w : World} {A : Around} {E : Value → Shared → Prop} {s : Shared}
theorem pyHash_none {Q : Int → Shared → Prop} (h : Q (hashOI none) { s with toks := s.toks + 1 }) : wpAny (model prog w) A (pyHash .none) Q E s := by
  show wpAny _ _ (pyHashByItsType .none) _ _ _
  refine pyHash_slot (T := "NoneType") rfl F.slot_NoneType_hash F.entry_NoneType_hash (F.args_NoneType_hash_1 _) (by decide +kernel) (.inl rfl) ?_
  show wpAny _ _ (retInt 0xFCA86420) _ _ _
  unfold retInt
  refine wpAny_bind (wpAny_mkInt ?_)
  exact wpAny_pure ⟨_, _, rfl, h⟩
theorem eqBool_ni {a b : Value} {Q : Bool → Shared → Prop} (hne : (a == b) = false) (hf : ∀ x y t u, ¬ (a = .float x t ∧ b = .float y u))
    (h : wpAny (model prog w) A (compareOp .Eq a b) (fun v s' => v = .bool false ∧ Q false s') E s) : wpAny (model prog w) A (eqBool a b) Q E s := by
  unfold eqBool
  refine wpAny_holding ?_
  rw [if_neg (by rw [hne]; exact Bool.false_ne_true)]
  have k : wpAny (model prog w) A (richCompare .Eq a b >>= fun v => truthOfDropped v) Q E s :=
    wpAny_bind (wpAny_mono h (fun v s' z => by obtain ⟨rfl, z⟩ := z; exact wpAny_truthy_bool z) fun _ _ x => x)
  cases a <;> cases b <;> first | exact k | exact absurd ⟨rfl, rfl⟩ (hf _ _ _ _)
end

def oKind (prog : Program) (w : World) : KeyKind prog w (Option Int) where
  is := isOI
  hash := hashOI
  inj := fun v a b ha hb => by
    cases a with
    | none => rw [isOI_none ha] at hb; cases b with
      | none => rfl
      | some k => obtain ⟨t, e⟩ := isOI_some hb; cases e
    | some k =>
      obtain ⟨t, rfl⟩ := isOI_some ha
      cases b with
      | none => cases isOI_none hb
      | some j => obtain ⟨u, e⟩ := isOI_some hb; cases e; rfl
  byValue := fun k v h => by
    cases k with
    | none => rw [isOI_none h]; rfl
    | some k => obtain ⟨t, rfl⟩ := isOI_some h; rfl
  pyHash := fun {A E s k v Q} hv h => by
    cases k with
    | none => rw [isOI_none hv]; exact pyHash_none h
    | some k => obtain ⟨t, rfl⟩ := isOI_some hv; exact wpAny_pyHash_int h
  eqBool := fun {A E s a b u v Q} hu hv h => by
    cases a with
    | none =>
      rw [isOI_none hu]
      cases b with
      | none =>
        rw [isOI_none hv]
        unfold eqBool
        refine wpAny_holding ?_
        rw [if_pos (by decide)]
        exact wpAny_bind (wpAny_rule (wpAny_pure (by simpa using h)))
      | some k =>
        obtain ⟨t, rfl⟩ := isOI_some hv
        exact eqBool_ni rfl (fun _ _ _ _ x => by cases x.1) (EqNone.eq_none_int ⟨rfl, by simpa using h⟩)
    | some j =>
      obtain ⟨t, rfl⟩ := isOI_some hu
      cases b with
      | none =>
        rw [isOI_none hv]
        exact eqBool_ni rfl (fun _ _ _ _ x => by cases x.2) (EqNone.eq_int_none ⟨rfl, by simpa using h⟩)
      | some k =>
        obtain ⟨u, rfl⟩ := isOI_some hv
        refine wpAny_eqBool_int ?_
        have e : (j == k) = decide (some j = some k) := by
          by_cases hk : j = k
          · subst hk; simp
          · simp [hk]
        rw [e]; exact h
  «strs» := fun k x t v h => by
    cases k with
    | none => cases isOI_none h
    | some k => obtain ⟨u, e⟩ := isOI_some h; cases e
end Mux
namespace Mux
open PySem PySem.W

theorem nm_nodup : (nm.map key).Nodup := by decide +kernel
theorem ofCode_inj {i j : Nat} (hi : i < nm.length) (hj : j < nm.length) (h : ofCode nm i = ofCode nm j) : i = j := by
  have hn := nm_nodup
  unfold ofCode at h
  rw [List.getD_eq_getElem?_getD, List.getD_eq_getElem?_getD, List.getElem?_eq_getElem hi, List.getElem?_eq_getElem hj] at h
  simp only [Option.getD_some] at h
  have e : (nm.map key)[i]'(by simpa using hi) = (nm.map key)[j]'(by simpa using hj) := by simp [h]
  exact (List.getElem_inj hn).mp e

inductive Role where
  | inst (c n : Nat) | attrs (c n : Nat) | dict (n : Nat) | sd (n : Nat) | ml (n : Nat) | priv
  deriving DecidableEq
def Role.pub : Role → Bool
  | .inst _ _ => false
  | .priv => false
  | _ => true
abbrev TT := Addr → Option Role

mutual
def VR (h : Heap) (T : TT) : V → Value → Prop
  | .none, x => x = .none
  | .bool b, x => x = .bool b
  | .int i, x => ∃ t, x = .int i t
  | .str n, x => n < nm.length ∧ ∃ t, x = .str (ofCode nm n) t
  | .bytes b, x => ∃ t, x = .bytes b.toArray t
  | .list vs, x => ∃ a ys, x = .ref a ∧ T a = none ∧ h.PlainList a ys.toArray ∧ VRs h T vs ys
  | .tup vs, x => ∃ a ys, x = .ref a ∧ T a = none ∧ h.IsTuple a ys.toArray ∧ VRs h T vs ys
  | .obj c n, x => ∃ a, x = .ref a ∧ T a = some (.inst c n)
  | .dict n, x => ∃ a, x = .ref a ∧ T a = some (.dict n)
  | .sd n, x => ∃ a, x = .ref a ∧ T a = some (.sd n)
  | .ml n, x => ∃ a, x = .ref a ∧ T a = some (.ml n)
def VRs (h : Heap) (T : TT) : List V → List Value → Prop
  | [], [] => True
  | v :: vs, x :: xs => VR h T v x ∧ VRs h T vs xs
  | _, _ => False
end

structure Evo (F : Addr → Prop) (h : Heap) (T : TT) (h' : Heap) (T' : TT) : Prop where
  role : ∀ a r, T a = some r → T' a = some r
  fresh : ∀ a, T a = none → T' a ≠ none → h.get? a = none
  keep : ∀ a o, h.get? a = some o → (∀ r, T a = some r → r.pub = false) → ¬ F a → h'.get? a = some o
abbrev F0 : Addr → Prop := fun _ => False
def FP (F : Addr → Prop) (T : TT) : Prop := ∀ a, F a → T a = some .priv
theorem fp0 {T : TT} : FP F0 T := fun _ h => h.elim
theorem FP.evo {F F' : Addr → Prop} {h h' : Heap} {T T' : TT} (x : FP F T) (e : Evo F' h T h' T') : FP F T' := fun a ha => e.role a _ (x a ha)

theorem Evo.refl {F : Addr → Prop} {h : Heap} {T : TT} : Evo F h T h T := ⟨fun _ _ e => e, fun _ e e' => absurd e e', fun _ _ e _ _ => e⟩
theorem Evo.mono {F F' : Addr → Prop} {h h' : Heap} {T T' : TT} (e : Evo F h T h' T') (x : ∀ a, F a → F' a) : Evo F' h T h' T' :=
  ⟨e.role, e.fresh, fun a o ho hp hn => e.keep a o ho hp fun hf => hn (x a hf)⟩
theorem Evo.trans {F : Addr → Prop} {h h' h'' : Heap} {T T' T'' : TT} (p : FP F T) (e : Evo F h T h' T') (e' : Evo F h' T' h'' T'') : Evo F h T h'' T'' := by
  refine ⟨fun a r x => e'.role a r (e.role a r x), fun a ha hn => ?_, fun a o ho hp hf => ?_⟩
  · cases hT : T' a with
    | some r => exact e.fresh a ha (by rw [hT]; exact nofun)
    | none =>
      have h1 := e'.fresh a hT hn
      cases hg : h.get? a with
      | none => rfl
      | some o =>
        have := e.keep a o hg (fun r x => by rw [ha] at x; cases x) (fun hf => by have := p a hf; rw [ha] at this; cases this)
        rw [h1] at this; cases this
  · refine e'.keep a o (e.keep a o ho hp hf) (fun r hr => ?_) hf
    cases hT : T a with
    | some r' => have := e.role a r' hT; rw [hr] at this; cases this; exact hp _ hT
    | none => have := e.fresh a hT (by rw [hr]; exact nofun); rw [ho] at this; cases this

mutual
theorem VR.evo {F : Addr → Prop} {h h' : Heap} {T T' : TT} (p : FP F T) (e : Evo F h T h' T') : ∀ (v : V) {x : Value}, VR h T v x → VR h' T' v x
  | .none, x, q => q
  | .bool _, x, q => q
  | .int _, x, q => q
  | .str _, x, q => q
  | .bytes _, x, q => q
  | .list vs, x, q => by
    obtain ⟨a, ys, e1, e2, e3, e4⟩ := q
    obtain ⟨n, ho⟩ := e3
    have nf : ¬ F a := fun hf => by have := p a hf; rw [e2] at this; cases this
    have k := e.keep a _ ho (fun r hr => by rw [e2] at hr; cases hr) nf
    refine ⟨a, ys, e1, ?_, ⟨n, k⟩, VRs.evo p e vs e4⟩
    cases hT : T' a with
    | none => rfl
    | some r => have := e.fresh a e2 (by rw [hT]; exact nofun); rw [ho] at this; cases this
  | .tup vs, x, q => by
    obtain ⟨a, ys, e1, e2, e3, e4⟩ := q
    obtain ⟨o, ho, hc, n, hd⟩ := e3
    have nf : ¬ F a := fun hf => by have := p a hf; rw [e2] at this; cases this
    have k := e.keep a o ho (fun r hr => by rw [e2] at hr; cases hr) nf
    refine ⟨a, ys, e1, ?_, ⟨o, k, hc, n, hd⟩, VRs.evo p e vs e4⟩
    cases hT : T' a with
    | none => rfl
    | some r => have := e.fresh a e2 (by rw [hT]; exact nofun); rw [ho] at this; cases this
  | .obj c n, x, q => let ⟨a, e1, e2⟩ := q; ⟨a, e1, e.role _ _ e2⟩
  | .dict n, x, q => let ⟨a, e1, e2⟩ := q; ⟨a, e1, e.role _ _ e2⟩
  | .sd n, x, q => let ⟨a, e1, e2⟩ := q; ⟨a, e1, e.role _ _ e2⟩
  | .ml n, x, q => let ⟨a, e1, e2⟩ := q; ⟨a, e1, e.role _ _ e2⟩
theorem VRs.evo {F : Addr → Prop} {h h' : Heap} {T T' : TT} (p : FP F T) (e : Evo F h T h' T') : ∀ (vs : List V) {xs : List Value}, VRs h T vs xs → VRs h' T' vs xs
  | [], [], q => q
  | _ :: _, [], q => q
  | [], _ :: _, q => q
  | v :: vs, x :: xs, q => ⟨VR.evo p e v q.1, VRs.evo p e vs q.2⟩
end

theorem VRs.length {h : Heap} {T : TT} : ∀ {vs : List V} {xs : List Value}, VRs h T vs xs → vs.length = xs.length
  | [], [], _ => rfl
  | _ :: _, _ :: _, q => by simp [VRs.length q.2]
  | [], _ :: _, q => q.elim
  | _ :: _, [], q => q.elim
theorem VRs.get {h : Heap} {T : TT} : ∀ {vs : List V} {xs : List Value} {i : Nat} {v : V}, VRs h T vs xs → vs[i]? = some v → ∃ x, xs[i]? = some x ∧ VR h T v x
  | v :: vs, x :: xs, 0, _, q, e => by simp at e; subst e; exact ⟨x, by simp, q.1⟩
  | v :: vs, x :: xs, i + 1, _, q, e => by simp at e; obtain ⟨y, a, b⟩ := VRs.get q.2 e; exact ⟨y, by simpa using a, b⟩
  | [], _, _, _, _, e => by simp at e
  | _ :: _, [], _, _, q, _ => q.elim
theorem VRs.append {h : Heap} {T : TT} : ∀ {vs : List V} {xs : List Value} {vs' : List V} {xs' : List Value}, VRs h T vs xs → VRs h T vs' xs' → VRs h T (vs ++ vs') (xs ++ xs')
  | [], [], _, _, _, q => q
  | _ :: _, _ :: _, _, _, p, q => ⟨p.1, VRs.append p.2 q⟩
  | [], _ :: _, _, _, p, _ => p.elim
  | _ :: _, [], _, _, p, _ => p.elim
theorem VRs.set {h : Heap} {T : TT} : ∀ {vs : List V} {xs : List Value} {i : Nat} {v : V} {x : Value}, VRs h T vs xs → VR h T v x → VRs h T (vs.set i v) (xs.set i x)
  | [], [], _, _, _, _, _ => by simp [VRs]
  | v :: vs, x :: xs, 0, _, _, q, e => by simp only [List.set_cons_zero]; exact ⟨e, q.2⟩
  | v :: vs, x :: xs, i + 1, _, _, q, e => by simp only [List.set_cons_succ]; exact ⟨q.1, VRs.set q.2 e⟩
  | [], _ :: _, _, _, _, p, _ => p.elim
  | _ :: _, [], _, _, _, p, _ => p.elim
theorem VRs.take {h : Heap} {T : TT} : ∀ {vs : List V} {xs : List Value} (k : Nat), VRs h T vs xs → VRs h T (vs.take k) (xs.take k)
  | [], [], _, _ => by simp [VRs]
  | v :: vs, x :: xs, 0, q => by simp [VRs]
  | v :: vs, x :: xs, k + 1, q => by simp only [List.take_succ_cons]; exact ⟨q.1, VRs.take k q.2⟩
  | [], _ :: _, _, p => p.elim
  | _ :: _, [], _, p => p.elim
theorem VRs.drop {h : Heap} {T : TT} : ∀ {vs : List V} {xs : List Value} (k : Nat), VRs h T vs xs → VRs h T (vs.drop k) (xs.drop k)
  | [], [], _, _ => by simp [VRs]
  | v :: vs, x :: xs, 0, q => q
  | v :: vs, x :: xs, k + 1, q => by simp only [List.drop_succ_cons]; exact VRs.drop k q.2
  | [], _ :: _, _, p => p.elim
  | _ :: _, [], _, p => p.elim
theorem VRs.reverse {h : Heap} {T : TT} : ∀ {vs : List V} {xs : List Value}, VRs h T vs xs → VRs h T vs.reverse xs.reverse
  | [], [], _ => by simp [VRs]
  | v :: vs, x :: xs, q => by
    simp only [List.reverse_cons]
    exact VRs.append (VRs.reverse q.2) ⟨q.1, trivial⟩
  | [], _ :: _, p => p.elim
  | _ :: _, [], p => p.elim

structure Glb where
  prog : Program
  w : World
  h₀ : Heap
  ca : Nat → Addr
  P : Prog
  hb : ∃ b o, sysModules < b ∧ h₀.get? b = some o

def FR (h : Heap) (T : TT) (ok : Nat → Bool) : Fields → List DictEntry → Prop
  | [], [] => True
  | (k, v) :: r, e :: es => (k < nm.length ∧ ok k = true ∧ (∃ t, e.key = .str (ofCode nm k) t) ∧ VR h T v e.val) ∧ FR h T ok r es
  | _, _ => False
def DR (h : Heap) (T : TT) : List (Int × V) → List (Option Int × Value) → Prop
  | [], [] => True
  | (k, v) :: r, e :: es => (e.1 = some k ∧ VR h T v e.2) ∧ DR h T r es
  | _, _ => False
def SR (h : Heap) (T : TT) : List (Nat × V) → List (Str × Value) → Prop
  | [], [] => True
  | (k, v) :: r, e :: es => (k < nm.length ∧ e.1 = ofCode nm k ∧ VR h T v e.2) ∧ SR h T r es
  | _, _ => False

theorem FR.evo {F : Addr → Prop} {h h' : Heap} {T T' : TT} {ok : Nat → Bool} (p : FP F T) (e : Evo F h T h' T') : ∀ {fs : Fields} {es : List DictEntry}, FR h T ok fs es → FR h' T' ok fs es
  | [], [], _ => trivial
  | (_, v) :: _, _ :: _, q => ⟨⟨q.1.1, q.1.2.1, q.1.2.2.1, VR.evo p e v q.1.2.2.2⟩, FR.evo p e q.2⟩
  | [], _ :: _, q => q.elim
  | _ :: _, [], q => q.elim
theorem DR.evo {F : Addr → Prop} {h h' : Heap} {T T' : TT} (p : FP F T) (e : Evo F h T h' T') : ∀ {fs : List (Int × V)} {es : List (Option Int × Value)}, DR h T fs es → DR h' T' fs es
  | [], [], _ => trivial
  | (_, v) :: _, _ :: _, q => ⟨⟨q.1.1, VR.evo p e v q.1.2⟩, DR.evo p e q.2⟩
  | [], _ :: _, q => q.elim
  | _ :: _, [], q => q.elim
theorem SR.evo {F : Addr → Prop} {h h' : Heap} {T T' : TT} (p : FP F T) (e : Evo F h T h' T') : ∀ {fs : List (Nat × V)} {es : List (Str × Value)}, SR h T fs es → SR h' T' fs es
  | [], [], _ => trivial
  | (_, v) :: _, _ :: _, q => ⟨⟨q.1.1, q.1.2.1, VR.evo p e v q.1.2.2⟩, SR.evo p e q.2⟩
  | [], _ :: _, q => q.elim
  | _ :: _, [], q => q.elim

structure Rp (g : Glb) (h : Heap) (T : TT) (s : St) : Prop where
  inst : ∀ a c n, T a = some (.inst c n) → c < 4 ∧ ∃ dx, h.get? a = some (instObj (g.ca c) dx) ∧ T dx = some (.attrs c n)
  attrs : ∀ a c n, T a = some (.attrs c n) → c < 4 ∧ ∃ fs es k, (s.objs c)[n]? = some fs ∧ h.get? a = some (dictOf es k) ∧ FR h T (g.P.attr c) fs es
  dict : ∀ a n, T a = some (.dict n) → ∃ es kvs, s.dicts[n]? = some es ∧ h.DictOf (oKind g.prog g.w) a kvs ∧ DR h T es kvs
  sd : ∀ a n, T a = some (.sd n) → ∃ es kvs, s.sds[n]? = some es ∧ h.DictOf (strKind g.prog g.w) a kvs ∧ SR h T es kvs
  ml : ∀ a n, T a = some (.ml n) → ∃ vs xs, s.mls[n]? = some vs ∧ h.PlainList a xs.toArray ∧ VRs h T vs xs
  inj : ∀ a b r, T a = some r → T b = some r → r ≠ .priv → a = b
  lo2 : ∀ a r, T a = some r → g.h₀.get? a = none ∧ (a == sysModules) = false
  live : ∀ a r, T a = some r → ∃ o, h.get? a = some o
  keep : ∀ b o, g.h₀.get? b = some o → h.get? b = some o

namespace Rp
variable {g : Glb} {h : Heap} {T : TT} {s : St}
theorem lt (R : Rp g h T s) {a : Addr} {r : Role} (e : T a = some r) : a < h.objs.size := let ⟨_, ho⟩ := R.live a r e; Heap.lt_size ho
theorem new (R : Rp g h T s) {a : Addr} (e : h.objs.size ≤ a) : T a = none := by
  cases hT : T a with
  | none => rfl
  | some r => exact absurd (R.lt hT) (Nat.not_lt.mpr e)
theorem lo (R : Rp g h T s) (a : Addr) (r : Role) (e : T a = some r) : g.h₀.get? a = none := (R.lo2 a r e).1
theorem low (R : Rp g h T s) {a : Addr} (e : h.objs.size ≤ a) : g.h₀.get? a = none ∧ (a == sysModules) = false := by
  refine ⟨?_, ?_⟩
  · cases q : g.h₀.get? a with
    | none => rfl
    | some o => exact absurd (Heap.lt_size (R.keep a o q)) (Nat.not_lt.mpr e)
  · obtain ⟨b, o, h1, h2⟩ := g.hb
    exact beq_eq_false_iff_ne.mpr (Nat.ne_of_gt (Nat.lt_of_lt_of_le (Nat.lt_trans h1 (Heap.lt_size (R.keep b o h2))) e))
end Rp

/-- the heap has grown, nothing that stood is changed -/
theorem Evo.grow {F : Addr → Prop} {h h' : Heap} {T : TT} (k : ∀ b o, h.get? b = some o → h'.get? b = some o) : Evo F h T h' T :=
  ⟨fun _ _ e => e, fun _ e e' => absurd e e', fun a o e _ _ => k a o e⟩
theorem Rp.grow {g : Glb} {h h' : Heap} {T : TT} {s : St} (R : Rp g h T s) (k : ∀ b o, h.get? b = some o → h'.get? b = some o) : Rp g h' T s := by
  have e : Evo F0 h T h' T := Evo.grow k
  refine ⟨fun a c n x => ?_, fun a c n x => ?_, fun a n x => ?_, fun a n x => ?_, fun a n x => ?_, R.inj, R.lo2, fun a r x => ?_, fun b o x => k _ _ (R.keep b o x)⟩
  · obtain ⟨y, dx, a1, a2⟩ := R.inst a c n x; exact ⟨y, dx, k _ _ a1, a2⟩
  · obtain ⟨y, fs, es, i, a1, a2, a3⟩ := R.attrs a c n x; exact ⟨y, fs, es, i, a1, k _ _ a2, a3.evo fp0 e⟩
  · obtain ⟨es, kvs, a1, a2, a3⟩ := R.dict a n x; exact ⟨es, kvs, a1, a2.keep k, a3.evo fp0 e⟩
  · obtain ⟨es, kvs, a1, a2, a3⟩ := R.sd a n x; exact ⟨es, kvs, a1, a2.keep k, a3.evo fp0 e⟩
  · obtain ⟨vs, xs, a1, a2, a3⟩ := R.ml a n x
    obtain ⟨o, b1⟩ := a2
    exact ⟨vs, xs, a1, ⟨o, k _ _ b1⟩, VRs.evo fp0 e _ a3⟩
  · obtain ⟨o, ho⟩ := R.live a r x; exact ⟨o, k _ _ ho⟩

/-! a role given to a new address -/
def TT.put (T : TT) (a : Addr) (r : Role) : TT := fun b => if b = a then some r else T b
theorem TT.put_same (T : TT) (a : Addr) (r : Role) : T.put a r a = some r := if_pos rfl
theorem TT.put_ne (T : TT) {a b : Addr} (r : Role) (h : b ≠ a) : T.put a r b = T b := if_neg h
theorem Evo.put {F : Addr → Prop} {h h' : Heap} {T : TT} {a : Addr} {r : Role} (hT : T a = none) (hn : h.get? a = none) (k : ∀ b o, h.get? b = some o → h'.get? b = some o) : Evo F h T h' (T.put a r) := by
  refine ⟨fun b x e => ?_, fun b e e' => ?_, fun b o e _ _ => k b o e⟩
  · have : b ≠ a := fun q => by rw [q, hT] at e; cases e
    rw [TT.put_ne _ _ this]; exact e
  · by_cases q : b = a
    · rw [q]; exact hn
    · rw [TT.put_ne _ _ q] at e'; exact absurd e e'

/-- the state relation with another abstract state, all else the same but at one role: used for the new and the changed -/
theorem Rp.change {g : Glb} {F : Addr → Prop} {h h' : Heap} {T T' : TT} {s s' : St} (R : Rp g h T s) (p : FP F T) (e : Evo F h T h' T')
    (inst : ∀ a c n, T' a = some (.inst c n) → T a ≠ some (.inst c n) → c < 4 ∧ ∃ dx, h'.get? a = some (instObj (g.ca c) dx) ∧ T' dx = some (.attrs c n))
    (attrs : ∀ a c n, T' a = some (.attrs c n) → (T a = some (.attrs c n) ∧ (s'.objs c)[n]? = (s.objs c)[n]? ∧ h'.get? a = h.get? a) ∨ (c < 4 ∧ ∃ fs es k, (s'.objs c)[n]? = some fs ∧ h'.get? a = some (dictOf es k) ∧ FR h' T' (g.P.attr c) fs es))
    (dict : ∀ a n, T' a = some (.dict n) → (T a = some (.dict n) ∧ s'.dicts[n]? = s.dicts[n]? ∧ h'.get? a = h.get? a) ∨ ∃ es kvs, s'.dicts[n]? = some es ∧ h'.DictOf (oKind g.prog g.w) a kvs ∧ DR h' T' es kvs)
    (sd : ∀ a n, T' a = some (.sd n) → (T a = some (.sd n) ∧ s'.sds[n]? = s.sds[n]? ∧ h'.get? a = h.get? a) ∨ ∃ es kvs, s'.sds[n]? = some es ∧ h'.DictOf (strKind g.prog g.w) a kvs ∧ SR h' T' es kvs)
    (ml : ∀ a n, T' a = some (.ml n) → (T a = some (.ml n) ∧ s'.mls[n]? = s.mls[n]? ∧ h'.get? a = h.get? a) ∨ ∃ vs xs, s'.mls[n]? = some vs ∧ h'.PlainList a xs.toArray ∧ VRs h' T' vs xs)
    (inj : ∀ a b r, T' a = some r → T' b = some r → r ≠ .priv → a = b)
    (lo : ∀ a r, T' a = some r → T a = none → g.h₀.get? a = none ∧ (a == sysModules) = false)
    (live : ∀ a r, T' a = some r → ∃ o, h'.get? a = some o) : Rp g h' T' s' := by
  refine ⟨fun a c n x => ?_, fun a c n x => ?_, fun a n x => ?_, fun a n x => ?_, fun a n x => ?_, inj, fun a r x => ?_, live, fun b o x => ?_⟩
  · by_cases hT : T a = some (.inst c n)
    · obtain ⟨y, dx, a1, a2⟩ := R.inst a c n hT
      refine ⟨y, dx, e.keep a _ a1 (fun r hr => by rw [hT] at hr; cases hr; rfl) (fun hf => by have := p a hf; rw [hT] at this; cases this), e.role _ _ a2⟩
    · exact inst a c n x hT
  · rcases attrs a c n x with ⟨h1, h2, h3⟩ | q
    · obtain ⟨y, fs, es, i, a1, a2, a3⟩ := R.attrs a c n h1
      exact ⟨y, fs, es, i, h2.trans a1, h3.trans a2, a3.evo p e⟩
    · exact q
  · rcases dict a n x with ⟨h1, h2, h3⟩ | q
    · obtain ⟨es, kvs, a1, a2, a3⟩ := R.dict a n h1
      obtain ⟨o, es', ep, b1, b2⟩ := a2
      exact ⟨es, kvs, h2.trans a1, ⟨o, es', ep, h3.trans b1, b2⟩, a3.evo p e⟩
    · exact q
  · rcases sd a n x with ⟨h1, h2, h3⟩ | q
    · obtain ⟨es, kvs, a1, a2, a3⟩ := R.sd a n h1
      obtain ⟨o, es', ep, b1, b2⟩ := a2
      exact ⟨es, kvs, h2.trans a1, ⟨o, es', ep, h3.trans b1, b2⟩, a3.evo p e⟩
    · exact q
  · rcases ml a n x with ⟨h1, h2, h3⟩ | q
    · obtain ⟨vs, xs, a1, ⟨o, b1⟩, a3⟩ := R.ml a n h1
      exact ⟨vs, xs, h2.trans a1, ⟨o, h3.trans b1⟩, VRs.evo p e _ a3⟩
    · exact q
  · cases hT : T a with
    | some r' => exact R.lo2 a r' hT
    | none => exact lo a r x hT
  · refine e.keep b o (R.keep b o x) (fun r hr => ?_) (fun hf => ?_)
    · have := R.lo b r hr; rw [x] at this; cases this
    · have := R.lo b _ (p b hf); rw [x] at this; cases this

theorem same_evo {h h' : Heap} {T : TT} {a : Addr} {r : Role} (hs : Heap.SameBut a h h') (ha : T a = some r) (hp : r.pub = true) {F : Addr → Prop} : Evo F h T h' T :=
  ⟨fun _ _ e => e, fun _ e e' => absurd e e', fun b o e q _ => (hs.2 b fun z => by subst z; have := q _ ha; rw [hp] at this; cases this).trans e⟩
theorem Rp.setDict {g : Glb} {h h' : Heap} {T : TT} {s : St} {a : Addr} {n : Nat} {es : List (Int × V)} {kvs : List (Option Int × Value)} (R : Rp g h T s) (ha : T a = some (.dict n)) (hn : n < s.dicts.length) (hs : Heap.SameBut a h h')
    (hd : h'.DictOf (oKind g.prog g.w) a kvs) (hr : DR h T es kvs) : Rp g h' T { s with dicts := s.dicts.set n es } := by
  have e : Evo F0 h T h' T := same_evo hs ha rfl
  refine R.change fp0 e (fun b c m x y => absurd x y) (fun b c m x => .inl ⟨x, rfl, hs.2 b fun z => by subst z; rw [ha] at x; cases x⟩)
    (fun b m x => ?_) (fun b m x => .inl ⟨x, rfl, hs.2 b fun z => by subst z; rw [ha] at x; cases x⟩) (fun b m x => .inl ⟨x, rfl, hs.2 b fun z => by subst z; rw [ha] at x; cases x⟩)
    R.inj (fun b r x y => by rw [x] at y; cases y) (fun b r x => ?_)
  · by_cases z : b = a
    · subst z
      rw [ha] at x; cases x
      exact .inr ⟨es, kvs, by simp [hn], hd, hr.evo fp0 e⟩
    · exact .inl ⟨x, by rw [List.getElem?_set_ne]; intro q; subst q; exact z (R.inj _ _ _ x ha nofun), hs.2 b z⟩
  · by_cases z : b = a
    · subst z; obtain ⟨o, _, _, ho, _⟩ := hd; exact ⟨o, ho⟩
    · obtain ⟨o, ho⟩ := R.live b r x; exact ⟨o, (hs.2 b z).trans ho⟩
theorem Rp.setSd {g : Glb} {h h' : Heap} {T : TT} {s : St} {a : Addr} {n : Nat} {es : List (Nat × V)} {kvs : List (Str × Value)} (R : Rp g h T s) (ha : T a = some (.sd n)) (hn : n < s.sds.length) (hs : Heap.SameBut a h h')
    (hd : h'.DictOf (strKind g.prog g.w) a kvs) (hr : SR h T es kvs) : Rp g h' T { s with sds := s.sds.set n es } := by
  have e : Evo F0 h T h' T := same_evo hs ha rfl
  refine R.change fp0 e (fun b c m x y => absurd x y) (fun b c m x => .inl ⟨x, rfl, hs.2 b fun z => by subst z; rw [ha] at x; cases x⟩)
    (fun b m x => .inl ⟨x, rfl, hs.2 b fun z => by subst z; rw [ha] at x; cases x⟩) (fun b m x => ?_) (fun b m x => .inl ⟨x, rfl, hs.2 b fun z => by subst z; rw [ha] at x; cases x⟩)
    R.inj (fun b r x y => by rw [x] at y; cases y) (fun b r x => ?_)
  · by_cases z : b = a
    · subst z
      rw [ha] at x; cases x
      exact .inr ⟨es, kvs, by simp [hn], hd, hr.evo fp0 e⟩
    · exact .inl ⟨x, by rw [List.getElem?_set_ne]; intro q; subst q; exact z (R.inj _ _ _ x ha nofun), hs.2 b z⟩
  · by_cases z : b = a
    · subst z; obtain ⟨o, _, _, ho, _⟩ := hd; exact ⟨o, ho⟩
    · obtain ⟨o, ho⟩ := R.live b r x; exact ⟨o, (hs.2 b z).trans ho⟩
theorem Rp.setMl {g : Glb} {h h' : Heap} {T : TT} {s : St} {a : Addr} {n : Nat} {vs : List V} {xs : List Value} (R : Rp g h T s) (ha : T a = some (.ml n)) (hn : n < s.mls.length) (hs : Heap.SameBut a h h')
    (hd : h'.PlainList a xs.toArray) (hr : VRs h T vs xs) : Rp g h' T { s with mls := s.mls.set n vs } := by
  have e : Evo F0 h T h' T := same_evo hs ha rfl
  refine R.change fp0 e (fun b c m x y => absurd x y) (fun b c m x => .inl ⟨x, rfl, hs.2 b fun z => by subst z; rw [ha] at x; cases x⟩)
    (fun b m x => .inl ⟨x, rfl, hs.2 b fun z => by subst z; rw [ha] at x; cases x⟩) (fun b m x => .inl ⟨x, rfl, hs.2 b fun z => by subst z; rw [ha] at x; cases x⟩) (fun b m x => ?_)
    R.inj (fun b r x y => by rw [x] at y; cases y) (fun b r x => ?_)
  · by_cases z : b = a
    · subst z
      rw [ha] at x; cases x
      exact .inr ⟨vs, xs, by simp [hn], hd, VRs.evo fp0 e _ hr⟩
    · exact .inl ⟨x, by rw [List.getElem?_set_ne]; intro q; subst q; exact z (R.inj _ _ _ x ha nofun), hs.2 b z⟩
  · by_cases z : b = a
    · subst z; obtain ⟨o, ho⟩ := hd; exact ⟨_, ho⟩
    · obtain ⟨o, ho⟩ := R.live b r x; exact ⟨o, (hs.2 b z).trans ho⟩
theorem objs_set {s : St} {c n : Nat} {f : Fields} {fs : Fields} (h : (s.objs c)[n]? = some f) (c' m : Nat) :
    ((s.setObjs c ((s.objs c).set n fs)).objs c')[m]? = if c' = c ∧ m = n then some fs else (s.objs c')[m]? := by
  have hlt : n < (s.objs c).length := (List.getElem?_eq_some_iff.mp h).1
  have key : ∀ l : List Fields, n < l.length → (l.set n fs)[m]? = if m = n then some fs else l[m]? := fun l hl => by
    by_cases q : m = n
    · subst q; simp [hl]
    · rw [if_neg q, List.getElem?_set_ne (fun z => q z.symm)]
  match c, h, hlt with
  | 0, _, hlt | 1, _, hlt | 2, _, hlt | 3, _, hlt =>
    match c' with
    | 0 | 1 | 2 | 3 => first | (simp only [St.setObjs, St.objs] at hlt ⊢; rw [key _ hlt]; simp) | (simp [St.setObjs, St.objs])
    | _ + 4 => simp [St.setObjs, St.objs]
  | _ + 4, h, _ => simp [St.objs] at h
theorem setObjs_dicts (s : St) (c : Nat) (l : List Fields) : (s.setObjs c l).dicts = s.dicts ∧ (s.setObjs c l).sds = s.sds ∧ (s.setObjs c l).mls = s.mls := by
  unfold St.setObjs; split <;> exact ⟨rfl, rfl, rfl⟩
theorem Rp.setAttrs {g : Glb} {h h' : Heap} {T : TT} {s : St} {a : Addr} {c n : Nat} {f fs : Fields} {es : List DictEntry} {k : Nat} (R : Rp g h T s) (ha : T a = some (.attrs c n)) (hn : (s.objs c)[n]? = some f) (hs : Heap.SameBut a h h')
    (hd : h'.get? a = some (dictOf es k)) (hr : FR h T (g.P.attr c) fs es) : Rp g h' T (s.setObjs c ((s.objs c).set n fs)) := by
  have e : Evo F0 h T h' T := same_evo hs ha rfl
  obtain ⟨s1, s2, s3⟩ := setObjs_dicts s c ((s.objs c).set n fs)
  have hc := (R.attrs a c n ha).1
  refine R.change fp0 e (fun b c m x y => absurd x y) (fun b c' m x => ?_)
    (fun b m x => .inl ⟨x, by rw [s1], hs.2 b fun z => by subst z; rw [ha] at x; cases x⟩) (fun b m x => .inl ⟨x, by rw [s2], hs.2 b fun z => by subst z; rw [ha] at x; cases x⟩) (fun b m x => .inl ⟨x, by rw [s3], hs.2 b fun z => by subst z; rw [ha] at x; cases x⟩)
    R.inj (fun b r x y => by rw [x] at y; cases y) (fun b r x => ?_)
  · rw [objs_set hn]
    by_cases z : b = a
    · subst z
      rw [ha] at x; cases x
      rw [if_pos ⟨rfl, rfl⟩]
      exact .inr ⟨hc, fs, es, k, rfl, hd, hr.evo fp0 e⟩
    · exact .inl ⟨x, if_neg fun q => by obtain ⟨rfl, rfl⟩ := q; exact z (R.inj _ _ _ x ha nofun), hs.2 b z⟩
  · by_cases z : b = a
    · subst z; exact ⟨_, hd⟩
    · obtain ⟨o, ho⟩ := R.live b r x; exact ⟨o, (hs.2 b z).trans ho⟩

/-! new things -/
theorem Rp.put {g : Glb} {h h' : Heap} {T : TT} {s s' : St} {a : Addr} {r : Role} (R : Rp g h T s) (hT : T a = none) (hlo : h.objs.size ≤ a) (k : ∀ b o, h.get? b = some o → h'.get? b = some o) (hl : ∃ o, h'.get? a = some o)
    (hi : ∀ c n, r ≠ .inst c n)
    (attrs : ∀ c n, (∃ b, T b = some (.attrs c n)) → (s'.objs c)[n]? = (s.objs c)[n]?) (attrs' : ∀ c n, r = .attrs c n → c < 4 ∧ ∃ fs es k, (s'.objs c)[n]? = some fs ∧ h'.get? a = some (dictOf es k) ∧ FR h' (T.put a r) (g.P.attr c) fs es)
    (dict : ∀ n, (∃ b, T b = some (.dict n)) → s'.dicts[n]? = s.dicts[n]?) (dict' : ∀ n, r = .dict n → ∃ es kvs, s'.dicts[n]? = some es ∧ h'.DictOf (oKind g.prog g.w) a kvs ∧ DR h' (T.put a r) es kvs)
    (sd : ∀ n, (∃ b, T b = some (.sd n)) → s'.sds[n]? = s.sds[n]?) (sd' : ∀ n, r = .sd n → ∃ es kvs, s'.sds[n]? = some es ∧ h'.DictOf (strKind g.prog g.w) a kvs ∧ SR h' (T.put a r) es kvs)
    (ml : ∀ n, (∃ b, T b = some (.ml n)) → s'.mls[n]? = s.mls[n]?) (ml' : ∀ n, r = .ml n → ∃ vs xs, s'.mls[n]? = some vs ∧ h'.PlainList a xs.toArray ∧ VRs h' (T.put a r) vs xs)
    (new : r ≠ .priv → ∀ b, T b ≠ some r) : Rp g h' (T.put a r) s' := by
  have hn : h.get? a = none := by
    cases q : h.get? a with
    | none => rfl
    | some o => exact absurd (Heap.lt_size q) (Nat.not_lt.mpr hlo)
  have e : Evo F0 h T h' (T.put a r) := .put hT hn k
  have old : ∀ {b ρ}, T.put a r b = some ρ → b ≠ a → T b = some ρ := fun x q => by rwa [TT.put_ne _ _ q] at x
  have atA : ∀ {ρ}, T.put a r a = some ρ → r = ρ := fun x => by rw [TT.put_same] at x; exact Option.some.inj x
  have hg : ∀ {b ρ}, T b = some ρ → h'.get? b = h.get? b := fun x => by obtain ⟨o, ho⟩ := R.live _ _ x; rw [ho]; exact k _ _ ho
  refine R.change fp0 e (fun b c n x y => ?_) (fun b c n x => ?_) (fun b n x => ?_) (fun b n x => ?_) (fun b n x => ?_) (fun b b' ρ x y z => ?_) (fun b ρ x y => ?_) (fun b ρ x => ?_)
  · by_cases q : b = a
    · subst q; exact absurd (atA x) (hi c n)
    · exact absurd (old x q) y
  · by_cases q : b = a
    · subst q; exact .inr (attrs' c n (atA x))
    · have z := old x q; exact .inl ⟨z, attrs c n ⟨b, z⟩, hg z⟩
  · by_cases q : b = a
    · subst q; exact .inr (dict' n (atA x))
    · have z := old x q; exact .inl ⟨z, dict n ⟨b, z⟩, hg z⟩
  · by_cases q : b = a
    · subst q; exact .inr (sd' n (atA x))
    · have z := old x q; exact .inl ⟨z, sd n ⟨b, z⟩, hg z⟩
  · by_cases q : b = a
    · subst q; exact .inr (ml' n (atA x))
    · have z := old x q; exact .inl ⟨z, ml n ⟨b, z⟩, hg z⟩
  · by_cases q : b = a
    · subst q
      by_cases q' : b' = b
      · exact q'.symm
      · have := atA x; subst this; exact absurd (old y q') (new z b')
    · by_cases q' : b' = a
      · subst q'; have := atA y; subst this; exact absurd (old x q) (new z b)
      · exact R.inj _ _ _ (old x q) (old y q') z
  · by_cases q : b = a
    · subst q; exact R.low hlo
    · rw [old x q] at y; cases y
  · by_cases q : b = a
    · subst q; exact hl
    · obtain ⟨o, ho⟩ := R.live b ρ (old x q); exact ⟨o, k _ _ ho⟩
theorem get_app {α : Type} {l : List α} {x : α} {n : Nat} (h : n < l.length) : (l ++ [x])[n]? = l[n]? := List.getElem?_append_left h
theorem Rp.newPriv {g : Glb} {h h' : Heap} {T : TT} {s : St} {a : Addr} (R : Rp g h T s) (hlo : h.objs.size ≤ a) (k : ∀ b o, h.get? b = some o → h'.get? b = some o) (hl : ∃ o, h'.get? a = some o) : Rp g h' (T.put a .priv) s :=
  R.put (R.new hlo) hlo k hl nofun (fun _ _ _ => rfl) nofun (fun _ _ => rfl) nofun (fun _ _ => rfl) nofun (fun _ _ => rfl) nofun (fun x => absurd rfl x)
theorem Rp.newDict {g : Glb} {h h' : Heap} {T : TT} {s : St} {a : Addr} {es : List (Int × V)} {kvs : List (Option Int × Value)} (R : Rp g h T s) (hlo : h.objs.size ≤ a) (k : ∀ b o, h.get? b = some o → h'.get? b = some o)
    (hd : h'.DictOf (oKind g.prog g.w) a kvs) (hr : DR h T es kvs) : Rp g h' (T.put a (.dict s.dicts.length)) { s with dicts := s.dicts ++ [es] } := by
  have hn : h.get? a = none := by
    cases q : h.get? a with
    | none => rfl
    | some o => exact absurd (Heap.lt_size q) (Nat.not_lt.mpr hlo)
  have small : ∀ {b n}, T b = some (.dict n) → n < s.dicts.length := fun x => by obtain ⟨_, _, y, _⟩ := R.dict _ _ x; exact (List.getElem?_eq_some_iff.mp y).1
  refine R.put (R.new hlo) hlo k (let ⟨o, _, _, ho, _⟩ := hd; ⟨o, ho⟩) nofun (fun c n _ => rfl) nofun (fun n ⟨b, x⟩ => get_app (small x)) (fun n e => ?_) (fun _ _ => rfl) nofun (fun _ _ => rfl) nofun (fun _ b x => Nat.lt_irrefl _ (small x))
  cases e
  exact ⟨es, kvs, by simp, hd, hr.evo fp0 (.put (R.new hlo) hn k)⟩
theorem Rp.newSd {g : Glb} {h h' : Heap} {T : TT} {s : St} {a : Addr} {es : List (Nat × V)} {kvs : List (Str × Value)} (R : Rp g h T s) (hlo : h.objs.size ≤ a) (k : ∀ b o, h.get? b = some o → h'.get? b = some o)
    (hd : h'.DictOf (strKind g.prog g.w) a kvs) (hr : SR h T es kvs) : Rp g h' (T.put a (.sd s.sds.length)) { s with sds := s.sds ++ [es] } := by
  have hn : h.get? a = none := by
    cases q : h.get? a with
    | none => rfl
    | some o => exact absurd (Heap.lt_size q) (Nat.not_lt.mpr hlo)
  have small : ∀ {b n}, T b = some (.sd n) → n < s.sds.length := fun x => by obtain ⟨_, _, y, _⟩ := R.sd _ _ x; exact (List.getElem?_eq_some_iff.mp y).1
  refine R.put (R.new hlo) hlo k (let ⟨o, _, _, ho, _⟩ := hd; ⟨o, ho⟩) nofun (fun c n _ => rfl) nofun (fun _ _ => rfl) nofun (fun n ⟨b, x⟩ => get_app (small x)) (fun n e => ?_) (fun _ _ => rfl) nofun (fun _ b x => Nat.lt_irrefl _ (small x))
  cases e
  exact ⟨es, kvs, by simp, hd, hr.evo fp0 (.put (R.new hlo) hn k)⟩
theorem Rp.newMl {g : Glb} {h h' : Heap} {T : TT} {s : St} {a : Addr} {vs : List V} {xs : List Value} (R : Rp g h T s) (hlo : h.objs.size ≤ a) (k : ∀ b o, h.get? b = some o → h'.get? b = some o)
    (hd : h'.PlainList a xs.toArray) (hr : VRs h T vs xs) : Rp g h' (T.put a (.ml s.mls.length)) { s with mls := s.mls ++ [vs] } := by
  have hn : h.get? a = none := by
    cases q : h.get? a with
    | none => rfl
    | some o => exact absurd (Heap.lt_size q) (Nat.not_lt.mpr hlo)
  have small : ∀ {b n}, T b = some (.ml n) → n < s.mls.length := fun x => by obtain ⟨_, _, y, _⟩ := R.ml _ _ x; exact (List.getElem?_eq_some_iff.mp y).1
  refine R.put (R.new hlo) hlo k (let ⟨o, ho⟩ := hd; ⟨_, ho⟩) nofun (fun c n _ => rfl) nofun (fun _ _ => rfl) nofun (fun _ _ => rfl) nofun (fun n ⟨b, x⟩ => get_app (small x)) (fun n e => ?_) (fun _ b x => Nat.lt_irrefl _ (small x))
  cases e
  exact ⟨vs, xs, by simp, hd, VRs.evo fp0 (.put (R.new hlo) hn k) _ hr⟩
theorem objs_app (s : St) (c : Nat) (f : Fields) (hc : c < 4) (c' m : Nat) :
    ((s.setObjs c (s.objs c ++ [f])).objs c')[m]? = if c' = c ∧ m = (s.objs c).length then some f else (s.objs c')[m]? := by
  have key : ∀ l : List Fields, (l ++ [f])[m]? = if m = l.length then some f else l[m]? := fun l => by
    by_cases q : m = l.length
    · subst q; simp
    · rw [if_neg q]
      by_cases z : m < l.length
      · exact List.getElem?_append_left z
      · rw [List.getElem?_eq_none (by simp; omega), List.getElem?_eq_none (by omega)]
  match c, hc with
  | 0, _ | 1, _ | 2, _ | 3, _ =>
    match c' with
    | 0 | 1 | 2 | 3 => first | (simp only [St.setObjs, St.objs]; rw [key]; simp) | (simp [St.setObjs, St.objs])
    | _ + 4 => simp [St.setObjs, St.objs]
  | _ + 4, h => exact absurd h (by omega)
theorem Rp.newInst {g : Glb} {h h' : Heap} {T : TT} {s : St} {a dx : Addr} {c : Nat} (hc : c < 4) (R : Rp g h T s) (hdx : h.objs.size ≤ dx) (hlt : h.objs.size ≤ a) (hne : dx ≠ a) (k : ∀ b o, h.get? b = some o → h'.get? b = some o)
    (hi : h'.get? a = some (instObj (g.ca c) dx)) (hd : h'.get? dx = some (dictOf [] 0)) :
    Rp g h' ((T.put dx (.attrs c (s.objs c).length)).put a (.inst c (s.objs c).length)) (s.setObjs c (s.objs c ++ [[]])) ∧ Evo F0 h T h' ((T.put dx (.attrs c (s.objs c).length)).put a (.inst c (s.objs c).length)) := by
  obtain ⟨s1, s2, s3⟩ := setObjs_dicts s c (s.objs c ++ [[]])
  have fresh : ∀ b, h.objs.size ≤ b → h.get? b = none := fun b hb => by
    cases q : h.get? b with
    | none => rfl
    | some o => exact absurd (Heap.lt_size q) (Nat.not_lt.mpr hb)
  have small : ∀ {b n}, T b = some (.attrs c n) → n < (s.objs c).length := fun x => by obtain ⟨_, _, _, _, y, _⟩ := R.attrs _ _ _ x; exact (List.getElem?_eq_some_iff.mp y).1
  have E : Evo F0 h T h' ((T.put dx (.attrs c (s.objs c).length)).put a (.inst c (s.objs c).length)) := by
    refine ⟨fun b r e => ?_, fun b e e' => ?_, fun b o e _ _ => k b o e⟩
    · have z1 : b ≠ a := fun q => by subst q; rw [R.new hlt] at e; cases e
      have z2 : b ≠ dx := fun q => by subst q; rw [R.new hdx] at e; cases e
      rw [TT.put_ne _ _ z1, TT.put_ne _ _ z2]; exact e
    · by_cases q : b = a
      · subst q; exact fresh _ hlt
      · by_cases q' : b = dx
        · subst q'; exact fresh _ hdx
        · rw [TT.put_ne _ _ q, TT.put_ne _ _ q'] at e'; exact absurd e e'
  refine ⟨?_, E⟩
  have Ta : ((T.put dx (.attrs c (s.objs c).length)).put a (.inst c (s.objs c).length)) a = some (.inst c (s.objs c).length) := TT.put_same _ _ _
  have Td : ((T.put dx (.attrs c (s.objs c).length)).put a (.inst c (s.objs c).length)) dx = some (.attrs c (s.objs c).length) := by rw [TT.put_ne _ _ hne, TT.put_same]
  have To : ∀ {b}, b ≠ a → b ≠ dx → ((T.put dx (.attrs c (s.objs c).length)).put a (.inst c (s.objs c).length)) b = T b := fun z1 z2 => by rw [TT.put_ne _ _ z1, TT.put_ne _ _ z2]
  have hg : ∀ {b ρ}, T b = some ρ → h'.get? b = h.get? b := fun x => by obtain ⟨o, ho⟩ := R.live _ _ x; rw [ho]; exact k _ _ ho
  have smallI : ∀ {b n}, T b = some (.inst c n) → n < (s.objs c).length := fun x => by obtain ⟨_, dx', _, y⟩ := R.inst _ _ _ x; exact small y
  generalize hT2 : ((T.put dx (.attrs c (s.objs c).length)).put a (.inst c (s.objs c).length)) = T2 at Ta Td To E ⊢
  have cases' : ∀ {b ρ}, T2 b = some ρ → (b = a ∧ ρ = .inst c (s.objs c).length) ∨ (b = dx ∧ ρ = .attrs c (s.objs c).length) ∨ (b ≠ a ∧ b ≠ dx ∧ T b = some ρ) := fun {b ρ} x => by
    by_cases q : b = a
    · subst q; rw [Ta] at x; exact .inl ⟨rfl, (Option.some.inj x).symm⟩
    · by_cases q' : b = dx
      · subst q'; rw [Td] at x; exact .inr (.inl ⟨rfl, (Option.some.inj x).symm⟩)
      · exact .inr (.inr ⟨q, q', by rwa [To q q'] at x⟩)
  refine R.change fp0 E (fun b c' n x y => ?_) (fun b c' n x => ?_) (fun b n x => ?_) (fun b n x => ?_) (fun b n x => ?_) (fun b b' ρ x y z => ?_) (fun b ρ x y => ?_) (fun b ρ x => ?_)
  · rcases cases' x with ⟨rfl, e⟩ | ⟨rfl, e⟩ | ⟨_, _, e⟩
    · cases e; exact ⟨hc, dx, hi, Td⟩
    · cases e
    · exact absurd e y
  · rcases cases' x with ⟨rfl, e⟩ | ⟨rfl, e⟩ | ⟨_, _, e⟩
    · cases e
    · cases e
      exact .inr ⟨hc, [], [], 0, by rw [objs_app s c [] hc, if_pos ⟨rfl, rfl⟩], hd, trivial⟩
    · refine .inl ⟨e, ?_, hg e⟩
      rw [objs_app s c [] hc, if_neg]
      rintro ⟨rfl, rfl⟩; exact Nat.lt_irrefl _ (small e)
  · rcases cases' x with ⟨rfl, e⟩ | ⟨rfl, e⟩ | ⟨_, _, e⟩
    · cases e
    · cases e
    · exact .inl ⟨e, by rw [s1], hg e⟩
  · rcases cases' x with ⟨rfl, e⟩ | ⟨rfl, e⟩ | ⟨_, _, e⟩
    · cases e
    · cases e
    · exact .inl ⟨e, by rw [s2], hg e⟩
  · rcases cases' x with ⟨rfl, e⟩ | ⟨rfl, e⟩ | ⟨_, _, e⟩
    · cases e
    · cases e
    · exact .inl ⟨e, by rw [s3], hg e⟩
  · rcases cases' x with ⟨rfl, e⟩ | ⟨rfl, e⟩ | ⟨_, _, e⟩ <;> rcases cases' y with ⟨rfl, e'⟩ | ⟨rfl, e'⟩ | ⟨_, _, e'⟩
    · rfl
    · rw [e] at e'; cases e'
    · rw [e] at e'; exact absurd (smallI e') (Nat.lt_irrefl _)
    · rw [e] at e'; cases e'
    · rfl
    · rw [e] at e'; exact absurd (small e') (Nat.lt_irrefl _)
    · rw [e'] at e; exact absurd (smallI e) (Nat.lt_irrefl _)
    · rw [e'] at e; exact absurd (small e) (Nat.lt_irrefl _)
    · exact R.inj _ _ _ e e' z
  · rcases cases' x with ⟨rfl, e⟩ | ⟨rfl, e⟩ | ⟨_, _, e⟩
    · exact R.low hlt
    · exact R.low hdx
    · rw [e] at y; cases y
  · rcases cases' x with ⟨rfl, e⟩ | ⟨rfl, e⟩ | ⟨_, _, e⟩
    · exact ⟨_, hi⟩
    · exact ⟨_, hd⟩
    · obtain ⟨o, ho⟩ := R.live b ρ e; exact ⟨o, k _ _ ho⟩

/-! private things: a store into one, one let go as a value -/
theorem Rp.setPriv {g : Glb} {h h' : Heap} {T : TT} {s : St} {F : Addr → Prop} (R : Rp g h T s) (p : FP F T) (k : ∀ b o, ¬ F b → h.get? b = some o → h'.get? b = some o) (hl : ∀ b, F b → ∃ o, h'.get? b = some o) : Rp g h' T s ∧ Evo F h T h' T := by
  have e : Evo F h T h' T := ⟨fun _ _ e => e, fun _ e e' => absurd e e', fun b o e _ nf => k b o nf e⟩
  have nf : ∀ {b r}, T b = some r → r ≠ .priv → ¬ F b := fun x y z => by rw [p _ z] at x; exact y (Option.some.inj x).symm
  have hg : ∀ {b r}, T b = some r → r ≠ .priv → h'.get? b = h.get? b := fun x y => by obtain ⟨o, ho⟩ := R.live _ _ x; rw [ho]; exact k _ _ (nf x y) ho
  refine ⟨R.change p e (fun b c n x y => absurd x y) (fun b c n x => .inl ⟨x, rfl, hg x nofun⟩) (fun b n x => .inl ⟨x, rfl, hg x nofun⟩) (fun b n x => .inl ⟨x, rfl, hg x nofun⟩) (fun b n x => .inl ⟨x, rfl, hg x nofun⟩)
    R.inj (fun b r x y => by rw [x] at y; cases y) (fun b r x => ?_), e⟩
  by_cases q : F b
  · exact hl b q
  · obtain ⟨o, ho⟩ := R.live b r x; exact ⟨o, k b o q ho⟩
def TT.drop (T : TT) (a : Addr) : TT := fun b => if b = a then none else T b
theorem TT.drop_ne (T : TT) {a b : Addr} (h : b ≠ a) : T.drop a b = T b := if_neg h
theorem TT.drop_same (T : TT) (a : Addr) : T.drop a a = none := if_pos rfl
mutual
theorem VR.drop {h : Heap} {T : TT} {d : Addr} (hd : T d = some .priv) : ∀ (v : V) {x : Value}, VR h T v x → VR h (T.drop d) v x
  | .none, x, q => q
  | .bool _, x, q => q
  | .int _, x, q => q
  | .str _, x, q => q
  | .bytes _, x, q => q
  | .list vs, x, q => by
    obtain ⟨a, ys, e1, e2, e3, e4⟩ := q
    exact ⟨a, ys, e1, by unfold TT.drop; split <;> first | rfl | exact e2, e3, VRs.drop' hd vs e4⟩
  | .tup vs, x, q => by
    obtain ⟨a, ys, e1, e2, e3, e4⟩ := q
    exact ⟨a, ys, e1, by unfold TT.drop; split <;> first | rfl | exact e2, e3, VRs.drop' hd vs e4⟩
  | .obj c n, x, q => let ⟨a, e1, e2⟩ := q; ⟨a, e1, (TT.drop_ne T fun z => by subst z; rw [hd] at e2; cases e2).trans e2⟩
  | .dict n, x, q => let ⟨a, e1, e2⟩ := q; ⟨a, e1, (TT.drop_ne T fun z => by subst z; rw [hd] at e2; cases e2).trans e2⟩
  | .sd n, x, q => let ⟨a, e1, e2⟩ := q; ⟨a, e1, (TT.drop_ne T fun z => by subst z; rw [hd] at e2; cases e2).trans e2⟩
  | .ml n, x, q => let ⟨a, e1, e2⟩ := q; ⟨a, e1, (TT.drop_ne T fun z => by subst z; rw [hd] at e2; cases e2).trans e2⟩
theorem VRs.drop' {h : Heap} {T : TT} {d : Addr} (hd : T d = some .priv) : ∀ (vs : List V) {xs : List Value}, VRs h T vs xs → VRs h (T.drop d) vs xs
  | [], [], q => q
  | _ :: _, [], q => q
  | [], _ :: _, q => q
  | v :: vs, x :: xs, q => ⟨VR.drop hd v q.1, VRs.drop' hd vs q.2⟩
end
theorem FR.drop {h : Heap} {T : TT} {d : Addr} (hd : T d = some .priv) {ok : Nat → Bool} : ∀ {fs : Fields} {es : List DictEntry}, FR h T ok fs es → FR h (T.drop d) ok fs es
  | [], [], _ => trivial
  | (_, v) :: _, _ :: _, q => ⟨⟨q.1.1, q.1.2.1, q.1.2.2.1, VR.drop hd v q.1.2.2.2⟩, FR.drop hd q.2⟩
  | [], _ :: _, q => q.elim
  | _ :: _, [], q => q.elim
theorem DR.drop {h : Heap} {T : TT} {d : Addr} (hd : T d = some .priv) : ∀ {fs : List (Int × V)} {es : List (Option Int × Value)}, DR h T fs es → DR h (T.drop d) fs es
  | [], [], _ => trivial
  | (_, v) :: _, _ :: _, q => ⟨⟨q.1.1, VR.drop hd v q.1.2⟩, DR.drop hd q.2⟩
  | [], _ :: _, q => q.elim
  | _ :: _, [], q => q.elim
theorem SR.drop {h : Heap} {T : TT} {d : Addr} (hd : T d = some .priv) : ∀ {fs : List (Nat × V)} {es : List (Str × Value)}, SR h T fs es → SR h (T.drop d) fs es
  | [], [], _ => trivial
  | (_, v) :: _, _ :: _, q => ⟨⟨q.1.1, q.1.2.1, VR.drop hd v q.1.2.2⟩, SR.drop hd q.2⟩
  | [], _ :: _, q => q.elim
  | _ :: _, [], q => q.elim
theorem Rp.dropPriv {g : Glb} {h : Heap} {T : TT} {s : St} {d : Addr} (R : Rp g h T s) (hd : T d = some .priv) : Rp g h (T.drop d) s := by
  have old : ∀ {b r}, T.drop d b = some r → T b = some r := fun {b r} x => by
    by_cases q : b = d
    · subst q; rw [TT.drop_same] at x; cases x
    · rwa [TT.drop_ne _ q] at x
  refine ⟨fun a c n x => ?_, fun a c n x => ?_, fun a n x => ?_, fun a n x => ?_, fun a n x => ?_, fun a b r x y z => R.inj _ _ _ (old x) (old y) z, fun a r x => R.lo2 _ _ (old x), fun a r x => R.live _ _ (old x), R.keep⟩
  · obtain ⟨y, dx, a1, a2⟩ := R.inst a c n (old x); exact ⟨y, dx, a1, (TT.drop_ne T fun z => by subst z; rw [hd] at a2; cases a2).trans a2⟩
  · obtain ⟨y, fs, es, i, a1, a2, a3⟩ := R.attrs a c n (old x); exact ⟨y, fs, es, i, a1, a2, a3.drop hd⟩
  · obtain ⟨es, kvs, a1, a2, a3⟩ := R.dict a n (old x); exact ⟨es, kvs, a1, a2, a3.drop hd⟩
  · obtain ⟨es, kvs, a1, a2, a3⟩ := R.sd a n (old x); exact ⟨es, kvs, a1, a2, a3.drop hd⟩
  · obtain ⟨vs, xs, a1, a2, a3⟩ := R.ml a n (old x); exact ⟨vs, xs, a1, a2, VRs.drop' hd _ a3⟩
/-- what grew with a private thing, once it is let go -/
theorem Evo.drop {F : Addr → Prop} {h h' : Heap} {T T' : TT} {d : Addr} (e : Evo F h T h' T') (hd : T d = none) : Evo F h T h' (T'.drop d) := by
  refine ⟨fun a r x => ?_, fun a x y => ?_, e.keep⟩
  · rw [TT.drop_ne]
    · exact e.role a r x
    · intro q; subst q; rw [hd] at x; cases x
  · by_cases q : a = d
    · subst q; rw [TT.drop_same] at y; exact absurd rfl y
    · rw [TT.drop_ne _ q] at y; exact e.fresh a x y
end Mux
namespace Mux
open PySem PySem.W

/-- what is behind a step that gives a value: used by every rule -/
def Pst (g : Glb) (s : Shared) (T : TT) (st' : St) (v : V) (Q : Value → Shared → Prop) : Prop :=
  ∀ h' tk T' x, Evo F0 s.heap T h' T' → Rp g h' T' st' → VR h' T' v x → Q x { s with heap := h', toks := tk }
def PstU (g : Glb) (s : Shared) (T : TT) (st' : St) (Q : Unit → Shared → Prop) : Prop :=
  ∀ h' tk T', Evo F0 s.heap T h' T' → Rp g h' T' st' → Q () { s with heap := h', toks := tk }
abbrev Glb.M (g : Glb) : Model := model g.prog g.w
structure Rm (A : Around) (n : Nat) : Prop where
  handled : A.handled = none
  depth : A.depth + 3 * n < 990
  units : A.units + 20 * n + 100 < cLine
theorem Rm.lt {A : Around} {n : Nat} (r : Rm A n) : A.units < cLine := by have := r.units; omega
theorem Rm.eq {A : Around} {n : Nat} (r : Rm A n) : A.units + 64 < cLine := by have := r.units; omega
theorem Rm.less {A : Around} {n m : Nat} (r : Rm A n) (h : m ≤ n) : Rm A m := ⟨r.handled, by have := r.depth; omega, by have := r.units; omega⟩

theorem notMods {g : Glb} (hb : True) {h : Heap} {T : TT} {s : St} (R : Rp g h T s) {a : Addr} {r : Role} (e : T a = some r) : (a == sysModules) = false :=
  (R.lo2 a r e).2

theorem asList_ok {g : Glb} {h : Heap} {T : TT} {st : St} {v : V} {vs : List V} {x : Value} (R : Rp g h T st) (e : asList st v = some vs) (r : VR h T v x) : ∃ a xs, x = .ref a ∧ h.PlainList a xs.toArray ∧ VRs h T vs xs := by
  cases v <;> simp only [asList] at e <;> try cases e
  · obtain ⟨a, ys, e1, _, e3, e4⟩ := r; exact ⟨a, ys, e1, e3, e4⟩
  · obtain ⟨a, e1, e2⟩ := r
    obtain ⟨ws, xs, b1, b2, b3⟩ := R.ml a _ e2
    rw [b1] at e; cases e
    exact ⟨a, xs, e1, b2, b3⟩

section
variable {g : Glb} {A : Around} {E : Value → Shared → Prop} {s : Shared} {T : TT} {st st' : St} {x y v : V} {a b : Value} {Q : Value → Shared → Prop} {n : Nat}

theorem Pst.now (p : Pst g s T st v Q) (R : Rp g s.heap T st) {tk : Nat} {z : Value} (r : VR s.heap T v z) : Q z { s with toks := tk } := p s.heap tk T z .refl R r
theorem PstU.now {Q : Unit → Shared → Prop} (p : PstU g s T st Q) (R : Rp g s.heap T st) {tk : Nat} : Q () { s with toks := tk } := p s.heap tk T .refl R

/-- a new list, a new tuple -/
theorem Pst.newList {vs : List V} {xs : List Value} (p : Pst g s T st (.list vs) Q) (R : Rp g s.heap T st) (r : VRs s.heap T vs xs) {h' : Heap} {tk : Nat} {d : Addr} (hd : s.heap.objs.size ≤ d) (k : ∀ b o, s.heap.get? b = some o → h'.get? b = some o)
    (hl : h'.PlainList d xs.toArray) : Q (.ref d) { s with heap := h', toks := tk } :=
  p h' tk T _ (.grow k) (R.grow k) ⟨d, xs, rfl, R.new hd, hl, VRs.evo fp0 (.grow k) _ r⟩
theorem Pst.newTup {vs : List V} {xs : List Value} (p : Pst g s T st (.tup vs) Q) (R : Rp g s.heap T st) (r : VRs s.heap T vs xs) {h' : Heap} {tk : Nat} {d : Addr} (hd : s.heap.objs.size ≤ d) (k : ∀ b o, s.heap.get? b = some o → h'.get? b = some o)
    (hl : h'.IsTuple d xs.toArray) : Q (.ref d) { s with heap := h', toks := tk } :=
  p h' tk T _ (.grow k) (R.grow k) ⟨d, xs, rfl, R.new hd, hl, VRs.evo fp0 (.grow k) _ r⟩
theorem push_keeps (h : Heap) (o : Obj) : ∀ b o', h.get? b = some o' → (h.push o).get? b = some o' := fun _ _ e => Heap.get?_push_of_some o e
theorem push_size_le (h : Heap) (o : Obj) : h.objs.size ≤ (h.push o).objs.size := by rw [Heap.size_push]; exact Nat.le_succ _
theorem push_isList (h : Heap) (xs : List Value) : (h.push { cls := .type "list", data := .seq xs.toArray }).PlainList h.objs.size xs.toArray := ⟨_, Heap.get?_push_size _ rfl⟩
theorem push_isTuple (h : Heap) (xs : List Value) : (h.push { cls := .type "tuple", data := .seq xs.toArray }).IsTuple h.objs.size xs.toArray := ⟨_, Heap.get?_push_size _ rfl, rfl, _, rfl⟩

theorem newList_ok {vs : List V} {xs : List Value} (p : Pst g s T st (.list vs) Q) (R : Rp g s.heap T st) (r : VRs s.heap T vs xs) (hz : vs.length ≤ 1000) : wpAny g.M A (newList xs) Q E s :=
  wpAny_newObj_type (p.newList (tk := s.toks) R r (Nat.le_refl _) (push_keeps _ _) (push_isList _ _)) (by show xs.toArray.size ≤ sizeLine; rw [List.size_toArray, ← r.length, sizeLine_eq]; omega)
theorem newTup_ok {vs : List V} {xs : List Value} (p : Pst g s T st (.tup vs) Q) (R : Rp g s.heap T st) (r : VRs s.heap T vs xs) (hz : vs.length ≤ 1000) : wpAny g.M A (newTuple xs) Q E s :=
  wpAny_newObj_type (p.newTup (tk := s.toks) R r (Nat.le_refl _) (push_keeps _ _) (push_isTuple _ _)) (by show xs.toArray.size ≤ sizeLine; rw [List.size_toArray, ← r.length, sizeLine_eq]; omega)
theorem newMl_ok {vs : List V} {xs : List Value} (p : Pst g s T { st with mls := st.mls ++ [vs] } (.ml st.mls.length) Q) (R : Rp g s.heap T st) (r : VRs s.heap T vs xs) (hz : vs.length ≤ 1000) : wpAny g.M A (newList xs) Q E s := by
  refine wpAny_newObj_type ?_ (by show xs.toArray.size ≤ sizeLine; rw [List.size_toArray, ← r.length, sizeLine_eq]; omega)
  have k := push_keeps s.heap { cls := .type "list", data := .seq xs.toArray }
  have hn : s.heap.get? s.heap.objs.size = none := by
    cases q : s.heap.get? s.heap.objs.size with
    | none => rfl
    | some o => exact absurd (Heap.lt_size q) (Nat.lt_irrefl _)
  exact p _ s.toks _ _ (.put (R.new (Nat.le_refl _)) hn k) (R.newMl (Nat.le_refl _) k (push_isList _ _) r) ⟨_, rfl, TT.put_same _ _ _⟩

/-! arithmetic -/
def opO : Op → Operator
  | .add => .Add | .sub => .Sub | .mul => .Mult | .fdiv => .FloorDiv | .mod => .Mod | .pow => .Pow

theorem pylong_small {x y : Int} (h0 : 0 < y) (h1 : y < 1000000) : Builtin.divisionGoesByPylong x y = false := by
  unfold Builtin.divisionGoesByPylong
  have hy : (y == 0) = false := by simp; omega
  simp only [hy, Bool.false_eq_true, if_false]
  have : y.natAbs.log2 < 20 := by
    by_cases hz : y.natAbs = 0
    · rw [hz]; decide
    · exact (Nat.log2_lt hz).mpr (by omega)
  have : ¬ (y.natAbs.log2 / 30 + 1 > 300) := by omega
  simp [this]

theorem addList_ok {xs ys : List V} (R : Rp g s.heap T st) (ha : VR s.heap T x a) (hb : VR s.heap T y b) (e1 : asList st x = some xs) (e2 : asList st y = some ys) (hz : xs.length + ys.length ≤ 1000) (p : Pst g s T st (.list (xs ++ ys)) Q) :
    wpAny g.M A (binaryOp .Add a b) Q E s := by
  obtain ⟨l, us, rfl, hl, ru⟩ := asList_ok R e1 ha
  obtain ⟨l', ws, rfl, hb, rw'⟩ := asList_ok R e2 hb
  obtain ⟨⟨cls, dd, data, sl⟩, ho, hc, i, hd⟩ := id hl.isList
  obtain ⟨⟨cls2, dd2, data2, sl2⟩, ho2, hc2, j, hd2⟩ := id hb.isList
  simp only at hc hd hc2 hd2
  subst hc hd hc2 hd2
  have e : us.toArray ++ ws.toArray = (us ++ ws).toArray := by simp
  have z1 := ru.length
  have z2 := rw'.length
  refine concat_meets ⟨_, ho, rfl⟩ ⟨_, ho2, rfl⟩ noFill_list_add seq_list_add PySem.F.slot_list_add PySem.F.entry_list_add (PySem.F.args_list_add_2 _ _) (PyProof.Rows.list_addW l l' us.toArray ws.toArray i j dd dd2 sl sl2 (by rw [List.size_toArray, List.size_toArray, sizeLine_eq]; omega)) ⟨ho, ho2, ?_⟩
  rw [e]
  exact p.newList (tk := s.toks) R (ru.append rw') (Nat.le_refl _) (push_keeps _ _) (push_isList _ _)

theorem bin_ok {o : Op} (R : Rp g s.heap T st) (ha : VR s.heap T x a) (hb : VR s.heap T y b) (he : binS st o x y = some v) (p : Pst g s T st v Q) : wpAny g.M A (binaryOp (opO o) a b) Q E s := by
  have listCase : ∀ {o x y}, binS st o x y = some v → VR s.heap T x a → VR s.heap T y b → (∀ i j, ¬ (x = .int i ∧ y = .int j)) → wpAny g.M A (binaryOp (opO o) a b) Q E s := fun {o x y} he ha hb hn => by
    unfold binS at he
    split at he <;> try first | exact absurd ⟨rfl, rfl⟩ (hn _ _) | cases he
    split at he
    · rename_i xs ys e1 e2
      split at he
      · cases he; rename_i hz; exact addList_ok R ha hb e1 e2 hz p
      · cases he
    · cases he
  by_cases hn : ∃ i j, x = .int i ∧ y = .int j
  · obtain ⟨i, j, rfl, rfl⟩ := hn
    obtain ⟨t, rfl⟩ := ha
    obtain ⟨u, rfl⟩ := hb
    cases o with
    | add => cases he; exact PyProof.Rows.add_int (p.now R ⟨_, rfl⟩)
    | sub => cases he; exact PyProof.Rows.sub_int (p.now R ⟨_, rfl⟩)
    | mul =>
      simp only [binS] at he
      split at he
      · cases he
        rename_i q
        simp only [Bool.and_eq_true, decide_eq_true_eq] at q
        exact PyProof.Rows.mul_int (p.now R ⟨_, rfl⟩) (IntMulOk.of_left (intBits_le_64 (by omega) (by omega)))
      · cases he
    | fdiv =>
      simp only [binS] at he
      split at he
      · cases he
        rename_i q
        simp only [Bool.and_eq_true, decide_eq_true_eq] at q
        exact PyProof.Rows.floordiv_int (by omega) (p.now R ⟨_, rfl⟩) (.inl (pylong_small q.1 q.2))
      · cases he
    | mod =>
      simp only [binS] at he
      split at he
      · cases he; exact PyProof.Rows.mod_int' (by omega) (p.now R ⟨_, rfl⟩)
      · cases he
    | pow =>
      simp only [binS] at he
      split at he
      · cases he
        rename_i q
        simp only [Bool.and_eq_true, decide_eq_true_eq] at q
        obtain ⟨rfl, rfl⟩ := q
        refine AutoIntOps.pow_4 (by decide) (by decide) (by decide) (by decide) (by decide +kernel) ?_
        exact p.now R ⟨_, rfl⟩
      · cases he
  · exact listCase he ha hb fun i j q => hn ⟨i, j, q⟩

/-! comparisons -/
def coO : CO → CmpOp
  | .eq => .Eq | .ne => .NotEq | .lt => .Lt | .gt => .Gt | .is => .Is | .isnot => .IsNot | .isin => .In | .notin => .NotIn

def toPy : V → PyData
  | .bool b => .bool b
  | .int i => .int i
  | _ => .none
theorem sc_carried {h : Heap} {T : TT} {v : V} {x : Value} (hs : v.sc = true) (r : VR h T v x) : PyProof.Rows.Carried x (toPy v) := by
  cases v <;> try cases hs
  · cases r; exact .none
  · cases r; exact .bool _
  · obtain ⟨t, rfl⟩ := r; exact .int _ _
theorem sc_carriedAll {h : Heap} {T : TT} : ∀ {vs : List V} {xs : List Value}, vs.all V.sc = true → VRs h T vs xs → PyProof.Rows.CarriedAll xs (vs.map toPy)
  | [], [], _, _ => .nil
  | v :: vs, x :: xs, hs, r => by
    simp only [List.all_cons, Bool.and_eq_true] at hs
    exact .cons (sc_carried hs.1 r.1) (sc_carriedAll hs.2 r.2)
  | [], _ :: _, _, r => r.elim
  | _ :: _, [], _, r => r.elim
theorem sc_canLay : ∀ vs : List V, PyData.canLayAll0 (vs.map toPy) = true
  | [] => rfl
  | v :: vs => by cases v <;> simp [PyData.canLayAll0, PyData.canLay0, toPy, sc_canLay vs]
theorem sc_depth : ∀ vs : List V, PyData.depthAll (vs.map toPy) = 0
  | [] => rfl
  | v :: vs => by cases v <;> simp [PyData.depthAll, PyData.depth, toPy, sc_depth vs]

theorem sc_shaped_list (vs : List V) : SeqAt.shaped (.list (vs.map toPy)) = true := by
  simp [SeqAt.shaped, PyData.canLay0, PyData.depth, sc_canLay, sc_depth]
theorem sc_shaped_tup (vs : List V) : SeqAt.shaped (.tuple (vs.map toPy)) = true := by
  simp [SeqAt.shaped, PyData.canLay0, PyData.depth, sc_canLay, sc_depth]
theorem sc_shaped (v : V) : SeqAt.shaped (toPy v) = true := by cases v <;> rfl
theorem eq1_eqv {x y : V} {b : Bool} (h : V.eq1 x y = some b) : x.sc = true ∧ y.sc = true ∧ PyData.eqv (toPy x) (toPy y) = b := by
  cases x <;> cases y <;> simp only [V.eq1] at h <;> first | (cases h; exact ⟨rfl, rfl, rfl⟩) | cases h
theorem eqs1_eqv : ∀ {xs ys : List V} {b : Bool}, eqs1 xs ys = some b → PyData.eqvAll (xs.map toPy) (ys.map toPy) = b
  | [], [], b, h => by cases h; rfl
  | [], _ :: _, b, h => by cases h; rfl
  | _ :: _, [], b, h => by cases h; rfl
  | x :: xs, y :: ys, b, h => by
    simp only [eqs1] at h
    split at h
    · rename_i p q e1 e2
      cases h
      simp only [List.map_cons, PyData.eqvAll, (eq1_eqv e1).2.2, eqs1_eqv e2]
    · cases h

theorem eq_ok {k : Bool} {u : Bool} (hb : True) (r : Rm A n) (R : Rp g s.heap T st) (ha : VR s.heap T x a) (hb' : VR s.heap T y b) (he : eqS st x y = some k) (p : Pst g s T st (.bool (if u then k else !k)) Q) : wpAny g.M A (compareOp (if u then .Eq else .NotEq) a b) Q E s := by
  have fin : ∀ {c : Bool} {tk : Nat}, c = k → Q (.bool (if u then c else !c)) { s with toks := tk } := fun {c tk} e => by subst e; exact p.now R rfl
  have data : ∀ {da db : PyData} {as bs : List Addr}, Reads s.heap a da as → Reads s.heap b db bs → SeqAt.shaped da = true → SeqAt.shaped db = true → PyData.eqv da db = k → wpAny g.M A (compareOp (if u then .Eq else .NotEq) a b) Q E s := fun ra rb sa sb e => by
    cases u with
    | true => exact PyProof.Rows.eq_dataH ra rb sa sb r.eq (fin (tk := s.toks) e)
    | false => exact PyProof.Rows.ne_dataH ra rb sa sb r.eq (fin (tk := s.toks) e)
  have lists : ∀ {xs ys : List V}, asList st x = some xs → asList st y = some ys → (if xs.all V.sc && ys.all V.sc then eqs1 xs ys else none) = some k → wpAny g.M A (compareOp (if u then .Eq else .NotEq) a b) Q E s := fun {xs ys} e1 e2 e3 => by
    split at e3
    · rename_i q
      simp only [Bool.and_eq_true] at q
      obtain ⟨l, us, rfl, hl, ru⟩ := asList_ok R e1 ha
      obtain ⟨l', ws, rfl, hl', rw'⟩ := asList_ok R e2 hb'
      refine data (PyProof.Rows.reads_newData hl.isList (sc_carriedAll q.1 ru)) (PyProof.Rows.reads_newData hl'.isList (sc_carriedAll q.2 rw')) (sc_shaped_list _) (sc_shaped_list _) ?_
      show PyData.eqvAll _ _ = _
      exact eqs1_eqv e3
    · cases e3
  unfold eqS at he
  split at he
  · rename_i i j
    obtain ⟨d, rfl, hd⟩ := ha
    obtain ⟨d', rfl, hd'⟩ := hb'
    obtain ⟨es, kvs, a1, a2, a3⟩ := R.dict d i hd
    obtain ⟨es', kvs', b1, b2, b3⟩ := R.dict d' j hd'
    rw [a1, b1] at he
    cases es' with
    | cons _ _ => cases he
    | nil =>
      simp only at he
      split at he
      · cases he
        have hk' : kvs' = [] := by cases kvs' with | nil => rfl | cons _ _ => exact b3.elim
        subst hk'
        have hlen : es.isEmpty = (kvs.length == ([] : List (Option Int × Value)).length && true) := by
          cases es <;> cases kvs <;> first | rfl | exact a3.elim
        have hits : kvs.length = ([] : List (Option Int × Value)).length → KeqHits A.in1 s [] kvs true := fun e => by
          cases kvs with | nil => exact .nil | cons _ _ => simp at e
        cases u with
        | true => exact keq_eq (notMods hb R hd) (notMods hb R hd') a2 b2 r.lt hits (fin (tk := s.toks) hlen.symm)
        | false => exact keq_ne (notMods hb R hd) (notMods hb R hd') a2 b2 r.lt hits (fin (tk := s.toks) hlen.symm)
      · cases he
  · obtain ⟨ha0, t, rfl⟩ := ha
    obtain ⟨hb0, t', rfl⟩ := hb'
    cases he
    rename_i i j
    have e : (ofCode nm i == ofCode nm j) = (i == j) := by
      by_cases q : i = j
      · subst q; simp
      · rw [beq_eq_false_iff_ne.mpr q, beq_eq_false_iff_ne.mpr fun z => q (ofCode_inj ha0 hb0 z)]
    cases u with
    | true => exact PyProof.Rows.eq_str (fin (tk := s.toks) e)
    | false => exact PyProof.Rows.ne_str (fin (c := ofCode nm i == ofCode nm j) (tk := s.toks) e)
  · rename_i xs ys
    split at he
    · rename_i q
      simp only [Bool.and_eq_true] at q
      obtain ⟨l, us, rfl, _, hl, ru⟩ := ha
      obtain ⟨l', ws, rfl, _, hl', rw'⟩ := hb'
      obtain ⟨o, ho, hc, m, hd⟩ := hl
      obtain ⟨o', ho', hc', m', hd'⟩ := hl'
      refine data (.tuple ho hc hd ((sc_carriedAll q.1 ru).reads _)) (.tuple ho' hc' hd' ((sc_carriedAll q.2 rw').reads _)) (sc_shaped_tup _) (sc_shaped_tup _) ?_
      show PyData.eqvAll _ _ = _
      exact eqs1_eqv he
    · cases he
  · split at he
    · rename_i e1 e2; exact lists e1 e2 he
    · obtain ⟨s1, s2, e⟩ := eq1_eqv he
      exact data ((sc_carried s1 ha).reads _) ((sc_carried s2 hb').reads _) (sc_shaped _) (sc_shaped _) e

theorem eq_ok' {k : Bool} (hb : True) (r : Rm A n) (R : Rp g s.heap T st) (ha : VR s.heap T x a) (hb' : VR s.heap T y b) (he : eqS' st x y = some k) (p : Pst g s T st (.bool k) Q) : wpAny g.M A (compareOp .Eq a b) Q E s := by
  unfold eqS' at he
  split at he
  · rename_i xs ys e1 e2
    split at he
    · exact eq_ok (u := true) hb r R ha hb' he p
    · cases he
      rename_i hne
      obtain ⟨l, us, rfl, hl, ru⟩ := asList_ok R e1 ha
      obtain ⟨l', ws, rfl, hl', rw'⟩ := asList_ok R e2 hb'
      refine SeqAt.eq_list_lengthsAt hl.isList hl'.isList ?_ r.lt (p.now (tk := s.toks) R rfl)
      have z1 := ru.length
      have z2 := rw'.length
      simp only [List.size_toArray, bne_iff_ne, ne_eq]
      omega
  · exact eq_ok (u := true) hb r R ha hb' he p

theorem is_ok {k : Bool} {u : Bool} (R : Rp g s.heap T st) (ha : VR s.heap T x a) (hb' : VR s.heap T y b) (he : V.is x y = some k) (p : Pst g s T st (.bool (if u then k else !k)) Q) : wpAny g.M A (compareOp (if u then .Is else .IsNot) a b) Q E s := by
  have fin : ∀ {c : Bool}, c = k → Q (.bool (if u then c else !c)) s := fun {c} e => by subst e; exact p.now (tk := s.toks) R rfl
  have none_ : ∀ {a : Value}, (a == .none) = k → wpAny g.M A (compareOp (if u then .Is else .IsNot) a .none) Q E s := fun {a} e => by
    cases u with
    | true => exact PyProof.Rows.is_none_gen (fin e)
    | false => exact PyProof.Rows.isnot_none_gen (fin e)
  have refs : ∀ {d e : Addr} {ρ ρ' : Role}, T d = some ρ → T e = some ρ' → ρ ≠ .priv → (decide (ρ = ρ')) = k → (∀ o, s.heap.get? d = some o → o.cls ≠ .type "tuple") → wpAny g.M A (compareOp (if u then .Is else .IsNot) (.ref d) (.ref e)) Q E s := fun {d e ρ ρ'} h1 h2 h3 h4 h5 => by
    by_cases q : d = e
    · subst q
      rw [h1] at h2; cases h2
      have hk : true = k := by simpa using h4
      cases u with
      | true => exact wpAny_is_ref_self (fin hk)
      | false => exact wpAny_isNot_ref_self (fin (c := true) hk)
    · have hk : false = k := by
        rw [← h4]; symm; apply decide_eq_false
        intro z; subst z; exact q (R.inj _ _ _ h1 h2 h3)
      obtain ⟨o, ho⟩ := R.live _ _ h1
      obtain ⟨o', ho'⟩ := R.live _ _ h2
      cases u with
      | true => exact wpAny_is_ref_other q ho ho' (h5 o ho) (fin hk)
      | false => exact wpAny_isNot_ref_other q ho ho' (h5 o ho) (fin (c := false) hk)
  cases y with
  | none =>
    cases hb'
    refine none_ ?_
    cases x <;> simp only [V.is] at he <;> cases he
    · cases ha; rfl
    · cases ha; rfl
    · obtain ⟨t, rfl⟩ := ha; rfl
    · obtain ⟨_, t, rfl⟩ := ha; rfl
    · obtain ⟨t, rfl⟩ := ha; rfl
    · obtain ⟨d, ys, rfl, _⟩ := ha; rfl
    · obtain ⟨d, ys, rfl, _⟩ := ha; rfl
    · obtain ⟨d, rfl, _⟩ := ha; rfl
    · obtain ⟨d, rfl, _⟩ := ha; rfl
    · obtain ⟨d, rfl, _⟩ := ha; rfl
    · obtain ⟨d, rfl, _⟩ := ha; rfl
  | obj c i =>
    cases x <;> simp only [V.is] at he <;> cases he
    rename_i c' i'
    obtain ⟨d, rfl, hd⟩ := ha
    obtain ⟨d', rfl, hd'⟩ := hb'
    refine refs hd hd' nofun ?_ fun o ho => ?_
    · by_cases q : c' = c ∧ i' = i
      · obtain ⟨rfl, rfl⟩ := q; simp
      · rw [decide_eq_false (by intro z; cases z; exact q ⟨rfl, rfl⟩)]
        symm; rw [Bool.and_eq_false_iff]
        by_cases q1 : c' = c
        · right; exact beq_eq_false_iff_ne.mpr fun z => q ⟨q1, z⟩
        · left; exact beq_eq_false_iff_ne.mpr q1
    · obtain ⟨_, dx, h1, _⟩ := R.inst d _ _ hd
      rw [h1] at ho; cases ho; exact nofun
  | dict i =>
    cases x <;> simp only [V.is] at he <;> cases he
    rename_i i'
    obtain ⟨d, rfl, hd⟩ := ha
    obtain ⟨d', rfl, hd'⟩ := hb'
    refine refs hd hd' nofun ?_ fun o ho => ?_
    · by_cases q : i' = i
      · subst q; simp
      · rw [decide_eq_false (by intro z; cases z; exact q rfl), beq_eq_false_iff_ne.mpr q]
    · obtain ⟨es, kvs, _, a2, _⟩ := R.dict d _ hd
      obtain ⟨o', _, _, b1, b2, _⟩ := a2
      rw [b1] at ho; cases ho; rw [b2.1]; decide
  | _ => cases x <;> simp only [V.is] at he <;> cases he

def RO (h : Heap) (T : TT) : Option V → Option Value → Prop
  | some v, some z => VR h T v z
  | none, none => True
  | _, _ => False
theorem RO.isSome {h : Heap} {T : TT} {v : Option V} {z : Option Value} (r : RO h T v z) : z.isSome = v.isSome := by
  cases v <;> cases z <;> first | rfl | exact r.elim
theorem RO.getD {h : Heap} {T : TT} {v : Option V} {z : Option Value} {d : V} {y : Value} (r : RO h T v z) (q : VR h T d y) : VR h T (v.getD d) (z.getD y) := by
  cases v <;> cases z <;> first | exact q | exact r | exact r.elim
theorem dget_rel {h : Heap} {T : TT} : ∀ {es : List (Int × V)} {kvs : List (Option Int × Value)} (k : Int), DR h T es kvs → RO h T (dget es k) (valueAt kvs (some k))
  | [], [], k, _ => trivial
  | (k', v) :: es, (q, x) :: kvs, k, r => by
    obtain ⟨⟨hq, hr⟩, rest⟩ := r
    dsimp only at hq hr
    subst hq
    have ih := dget_rel k rest
    unfold dget valueAt at ih ⊢
    by_cases e : k' = k
    · subst e; simp only [List.find?_cons, decide_true, Option.map_some]; exact hr
    · have e1 : decide (k' = k) = false := decide_eq_false e
      have e2 : decide (some k' = some k) = false := decide_eq_false fun z => e (Option.some.inj z)
      simp only [List.find?_cons, e1, e2]
      exact ih
  | [], _ :: _, _, r => r.elim
  | _ :: _, [], _, r => r.elim
theorem none_rel {h : Heap} {T : TT} : ∀ {es : List (Int × V)} {kvs : List (Option Int × Value)}, DR h T es kvs → RO h T none (valueAt kvs none)
  | [], [], _ => trivial
  | (k', v) :: es, (q, x) :: kvs, r => by
    obtain ⟨⟨hq, hr⟩, rest⟩ := r
    dsimp only at hq hr
    subst hq
    have ih := none_rel rest
    unfold valueAt at ih ⊢
    simp only [List.find?_cons, show decide (some k' = none) = false from rfl]
    exact ih
  | [], _ :: _, r => r.elim
  | _ :: _, [], r => r.elim
/-- a key looked for in an int dict: an int, or None -/
theorem dkey_ok {h : Heap} {T : TT} {es : List (Int × V)} {kvs : List (Option Int × Value)} {x : V} {a : Value} {r : Option V} (prog : Program) (w : World) (ha : VR h T x a) (he : dkey es x = some r) (hr : DR h T es kvs) :
    ∃ k, (oKind prog w).is k a = true ∧ RO h T r (valueAt kvs k) := by
  cases x <;> simp only [dkey] at he <;> try cases he
  · cases ha; exact ⟨none, rfl, none_rel hr⟩
  · obtain ⟨t, rfl⟩ := ha
    rename_i k
    exact ⟨some k, by simp [oKind, isOI, Value.isInt], dget_rel k hr⟩
theorem in_ok {k : Bool} {u : Bool} (hb : True) (R : Rp g s.heap T st) (ha : VR s.heap T x a) (hb' : VR s.heap T y b) (he : inS st x y = some k) (p : Pst g s T st (.bool (if u then k else !k)) Q) : wpAny g.M A (compareOp (if u then .In else .NotIn) a b) Q E s := by
  unfold inS at he
  split at he
  · rename_i i
    obtain ⟨es, h1, h2⟩ := Option.bind_eq_some_iff.mp he
    obtain ⟨r, h3, h4⟩ := Option.map_eq_some_iff.mp h2
    obtain ⟨d, rfl, hd⟩ := hb'
    obtain ⟨es', kvs, a1, a2, a3⟩ := R.dict d i hd
    rw [h1] at a1; cases a1
    obtain ⟨key, hk, hv⟩ := dkey_ok g.prog g.w ha h3 a3
    have hs : (valueAt kvs key).isSome = k := hv.isSome.trans h4
    have fin : Q (.bool (if u then (valueAt kvs key).isSome else !(valueAt kvs key).isSome)) { s with toks := s.toks + 1 } := by rw [hs]; exact p.now R rfl
    cases u with
    | true => exact wpAny_in_of hk (notMods hb R hd) a2.mapOf fin
    | false => exact wpAny_notIn_of hk (notMods hb R hd) a2.mapOf fin
  · cases he

theorem cmp_ok {o : CO} {k : Bool} (hb : True) (r : Rm A n) (R : Rp g s.heap T st) (ha : VR s.heap T x a) (hb' : VR s.heap T y b) (he : cmpS st o x y = some k) (p : Pst g s T st (.bool k) Q) : wpAny g.M A (compareOp (coO o) a b) Q E s := by
  cases o with
  | eq => exact eq_ok' hb r R ha hb' he p
  | ne => obtain ⟨k', h1, rfl⟩ := Option.map_eq_some_iff.mp he; exact eq_ok (u := false) hb r R ha hb' h1 p
  | is => exact is_ok (u := true) R ha hb' he p
  | isnot => obtain ⟨k', h1, rfl⟩ := Option.map_eq_some_iff.mp he; exact is_ok (u := false) R ha hb' h1 p
  | isin => exact in_ok (u := true) hb R ha hb' he p
  | notin => obtain ⟨k', h1, rfl⟩ := Option.map_eq_some_iff.mp he; exact in_ok (u := false) hb R ha hb' h1 p
  | lt =>
    simp only [cmpS] at he
    split at he
    · cases he; obtain ⟨t, rfl⟩ := ha; obtain ⟨t', rfl⟩ := hb'; exact PyProof.Rows.lt_int (p.now (tk := s.toks) R rfl)
    · cases he
  | gt =>
    simp only [cmpS] at he
    split at he
    · cases he; obtain ⟨t, rfl⟩ := ha; obtain ⟨t', rfl⟩ := hb'; exact PyProof.Rows.gt_int (p.now (tk := s.toks) R rfl)
    · cases he
end
end Mux
namespace Mux
open PySem PySem.W

section
variable {g : Glb} {A : Around} {E : Value → Shared → Prop} {s : Shared} {T : TT} {st st' : St} {x y z v : V} {a b c : Value} {Q : Value → Shared → Prop} {n : Nat}

theorem subscripted_eq {slice : Expr} {o i : Value} (h : isSlice slice = false) : subscripted slice false o i = operate [o, i] (getItem o i) := by
  unfold subscripted
  cases slice <;> first | rfl | cases h

theorem listItem_ok {vs : List V} {xs : List Value} {l : Addr} {k : Int} {t : Tok} (R : Rp g s.heap T st) (hl : s.heap.PlainList l xs.toArray) (hr : VRs s.heap T vs xs) (he : at? vs k = some v) (p : Pst g s T st v Q) : wpAny g.M A (getItem (.ref l) (.int k t)) Q E s := by
  have hlen := hr.length
  unfold at? at he
  split at he
  · rename_i h0
    split at he
    · rename_i h1
      obtain ⟨z, hz, rz⟩ := hr.get he
      exact wpAny_getItem_list hl.isList h0 (by omega) (by simpa using hz) (p.now (tk := s.toks) R rz)
    · cases he
  · rename_i h0
    split at he
    · rename_i h1
      obtain ⟨z, hz, rz⟩ := hr.get he
      refine wpAny_getItem_list_neg hl.isList (by omega) (by rw [List.size_toArray, ← hlen]; exact h1.1) (by omega) (by rw [List.size_toArray, ← hlen]; simpa using hz) (p.now (tk := s.toks) R rz)
    · cases he
theorem sget_rel {h : Heap} {T : TT} : ∀ {es : List (Nat × V)} {kvs : List (Str × Value)} {k : Nat}, k < nm.length → SR h T es kvs → RO h T (lget k es) (valueAt kvs (ofCode nm k))
  | [], [], k, _, _ => trivial
  | (k', v) :: es, (q, x) :: kvs, k, hk, r => by
    obtain ⟨⟨hlt, hq, hr⟩, rest⟩ := r
    dsimp only at hq hr
    subst hq
    have ih := sget_rel hk rest
    unfold lget
    unfold valueAt at ih ⊢
    by_cases e : k' = k
    · subst e; simp only [List.find?_cons, decide_true, Option.map_some, beq_self_eq_true, if_true]; exact hr
    · have e1 : (k' == k) = false := beq_eq_false_iff_ne.mpr e
      have e2 : decide (ofCode nm k' = ofCode nm k) = false := decide_eq_false fun z => e (ofCode_inj hlt hk z)
      simp only [List.find?_cons, e1, e2]
      exact ih
  | [], _ :: _, _, _, r => r.elim
  | _ :: _, [], _, _, r => r.elim
theorem RO.some {h : Heap} {T : TT} {v : V} {z : Option Value} (r : RO h T (some v) z) : ∃ y, z = Option.some y ∧ VR h T v y := by
  cases z with
  | none => exact r.elim
  | some y => exact ⟨y, rfl, r⟩
theorem sub_ok {value slice : Expr} (hsl : isSlice slice = false) (R : Rp g s.heap T st) (ha : VR s.heap T x a) (hb : VR s.heap T y b) (he : getI st x y = some v) (p : Pst g s T st v Q) : wpAny g.M A (PyProof.Rows.subscriptTail value slice a b) Q E s := by
  unfold getI at he
  split at he
  · rename_i i k
    obtain ⟨es, h1, h2⟩ := Option.bind_eq_some_iff.mp he
    obtain ⟨d, rfl, hd⟩ := ha
    obtain ⟨hk, t, rfl⟩ := hb
    obtain ⟨es', kvs, a1, a2, a3⟩ := R.sd d i hd
    rw [h1] at a1; cases a1
    have ro := sget_rel hk a3
    rw [h2] at ro
    obtain ⟨w, hw, rw'⟩ := ro.some
    exact PyProof.Rows.tail_any a2.typeIs slot_dict_getitem.lookup (wpAny_getItem_of (strKind_is _ _ _ _) a2.mapOf hw (p.now R rw')) (subscripted_eq hsl)
  · rename_i i k
    obtain ⟨es, h1, h2⟩ := Option.bind_eq_some_iff.mp he
    obtain ⟨d, rfl, hd⟩ := ha
    obtain ⟨t, rfl⟩ := hb
    obtain ⟨es', kvs, a1, a2, a3⟩ := R.dict d i hd
    rw [h1] at a1; cases a1
    have ro := dget_rel k a3
    rw [h2] at ro
    obtain ⟨w, hw, rw'⟩ := ro.some
    exact PyProof.Rows.tail_any a2.typeIs slot_dict_getitem.lookup (wpAny_getItem_of (knd := oKind g.prog g.w) (k := some k) (by simp [oKind, isOI, Value.isInt]) a2.mapOf hw (p.now R rw')) (subscripted_eq hsl)
  · obtain ⟨l, xs, rfl, _, hl, hr⟩ := ha
    obtain ⟨t, rfl⟩ := hb
    exact PyProof.Rows.tail_any hl.isList.typeIs slot_list_getitem.lookup (listItem_ok R hl hr he p) (subscripted_eq hsl)
  · rename_i i k
    obtain ⟨vs, h1, h2⟩ := Option.bind_eq_some_iff.mp he
    obtain ⟨d, rfl, hd⟩ := ha
    obtain ⟨t, rfl⟩ := hb
    obtain ⟨vs', xs, a1, a2, a3⟩ := R.ml d i hd
    rw [h1] at a1; cases a1
    exact PyProof.Rows.tail_any a2.isList.typeIs slot_list_getitem.lookup (listItem_ok R a2 a3 h2 p) (subscripted_eq hsl)
  · cases he

/-! slices -/
theorem slice_ok {vs : List V} {value slice : Expr} {vl vu vk : Value} {lo hi sp : Option Int} (R : Rp g s.heap T st) (ha : VR s.heap T (.list vs) a) (hz : vs.length ≤ 1000) (pl : IsPart vl lo) (pu : IsPart vu hi) (ps : IsPart vk sp) (h0 : sp ≠ some 0)
    (hs : ∀ o i, ∃ ops, subscripted slice false o i = operate ops (getItem o i)) {ws : List V} (hw : ∀ xs : List Value, VRs s.heap T vs xs → ∃ zs : List Value, slicePick xs.toArray lo hi sp = zs.toArray ∧ VRs s.heap T ws zs) (p : Pst g s T st (.list ws) Q) :
    wpAny g.M A (PyProof.Rows.subscriptTail value slice a (.ref s.heap.objs.size)) Q E { s with heap := s.heap.push { cls := .type "slice", data := .fields #[vl, vu, vk] } } := by
  obtain ⟨l, xs, rfl, _, hl, hr⟩ := ha
  obtain ⟨zs, e, rz⟩ := hw xs hr
  obtain ⟨ops, hops⟩ := hs (.ref l) (.ref s.heap.objs.size)
  have k := push_keeps s.heap { cls := .type "slice", data := .fields #[vl, vu, vk] }
  have hl' : (s.heap.push { cls := .type "slice", data := .fields #[vl, vu, vk] }).IsList l xs.toArray := let ⟨o, ho, r⟩ := hl.isList; ⟨o, k _ _ ho, r⟩
  refine PyProof.Rows.tail_any hl'.typeIs slot_list_getitem.lookup (wpAny_getItem_list_slice (s := { s with heap := s.heap.push { cls := .type "slice", data := .fields #[vl, vu, vk] } }) hl' (Heap.IsSliceOf.new ..) pl pu ps h0 ?_ (by rw [List.size_toArray, ← hr.length, sizeLine_eq]; omega)) hops
  rw [e]
  refine p.newList (tk := s.toks) R rz (by rw [Heap.size_push]; exact Nat.le_succ _) (fun b o e => push_keeps _ _ _ _ (k _ _ e)) ?_
  exact push_isList _ _
theorem upto_pick (xs : List Value) (k : Nat) : slicePick xs.toArray none (some (k : Int)) none = (xs.take k).toArray := by
  rw [slicePick_upto']
theorem rev_pick (xs : List Value) : slicePick xs.toArray none none (some (-1)) = xs.reverse.toArray := by
  rw [krv_pick]

/-! stores by an item -/
theorem stored_rel {h : Heap} {T : TT} {es : List (Int × V)} {kvs : List (Option Int × Value)} {k : Int} {v : V} {x : Value} (r : DR h T es kvs) (rv : VR h T v x) : DR h T (dset es k v) (stored kvs (some k) x) := by
  have hany : ∀ {es : List (Int × V)} {kvs : List (Option Int × Value)}, DR h T es kvs → (kvs.any fun kv => kv.1 = some k) = es.any fun p => p.1 = k := by
    intro es
    induction es with
    | nil => intro kvs r; cases kvs with | nil => rfl | cons _ _ => exact r.elim
    | cons e es ih =>
      intro kvs r
      cases kvs with
      | nil => exact r.elim
      | cons q kvs =>
        obtain ⟨⟨h1, _⟩, r'⟩ := r
        simp only [List.any_cons, ih r', h1]
        congr 1
        by_cases z : e.1 = k <;> simp [z]
  have hmap : ∀ {es : List (Int × V)} {kvs : List (Option Int × Value)}, DR h T es kvs → DR h T (es.map fun p => if p.1 = k then (p.1, v) else p) (kvs.map fun kv => if kv.1 = some k then (kv.1, x) else kv) := by
    intro es
    induction es with
    | nil => intro kvs r; cases kvs with | nil => exact trivial | cons _ _ => exact r.elim
    | cons e es ih =>
      intro kvs r
      cases kvs with
      | nil => exact r.elim
      | cons q kvs =>
        obtain ⟨⟨h1, h2⟩, r'⟩ := r
        obtain ⟨e1, e2⟩ := e
        obtain ⟨q1, q2⟩ := q
        dsimp only at h1 h2
        subst h1
        simp only [List.map_cons]
        by_cases z : e1 = k
        · subst z; simp only [if_true]; exact ⟨⟨rfl, rv⟩, ih r'⟩
        · rw [if_neg z, if_neg fun q => z (Option.some.inj q)]; exact ⟨⟨rfl, h2⟩, ih r'⟩
  have happ : ∀ {es : List (Int × V)} {kvs : List (Option Int × Value)}, DR h T es kvs → DR h T (es ++ [(k, v)]) (kvs ++ [(some k, x)]) := by
    intro es
    induction es with
    | nil => intro kvs r; cases kvs with | nil => exact ⟨⟨rfl, rv⟩, trivial⟩ | cons _ _ => exact r.elim
    | cons e es ih =>
      intro kvs r
      cases kvs with
      | nil => exact r.elim
      | cons q kvs => exact ⟨r.1, ih r.2⟩
  unfold dset stored
  rw [hany r]
  split
  · exact hmap r
  · exact happ r
theorem DR.length {h : Heap} {T : TT} : ∀ {es : List (Int × V)} {kvs : List (Option Int × Value)}, DR h T es kvs → es.length = kvs.length
  | [], [], _ => rfl
  | _ :: _, _ :: _, r => by simp [DR.length r.2]
  | [], _ :: _, r => r.elim
  | _ :: _, [], r => r.elim
theorem SR.length {h : Heap} {T : TT} : ∀ {es : List (Nat × V)} {kvs : List (Str × Value)}, SR h T es kvs → es.length = kvs.length
  | [], [], _ => rfl
  | _ :: _, _ :: _, r => by simp [SR.length r.2]
  | [], _ :: _, r => r.elim
  | _ :: _, [], r => r.elim
theorem sstored_rel {h : Heap} {T : TT} {k : Nat} {v : V} {x : Value} (hk : k < nm.length) (rv : VR h T v x) : ∀ {es : List (Nat × V)} {kvs : List (Str × Value)}, (kvs.map (·.1)).Nodup → SR h T es kvs → SR h T (upd k v es) (stored kvs (ofCode nm k) x)
  | [], [], _, _ => ⟨⟨hk, rfl, rv⟩, trivial⟩
  | (k', v') :: es, (q, x') :: kvs, hn, r => by
    obtain ⟨⟨hlt, hq, hr⟩, rest⟩ := r
    dsimp only at hq hr
    subst hq
    simp only [List.map_cons, List.nodup_cons] at hn
    by_cases e : k' = k
    · subst e
      have hno : ∀ kv ∈ kvs, ¬ kv.1 = ofCode nm k' := fun kv hm z => hn.1 (List.mem_map.mpr ⟨kv, hm, z⟩)
      unfold upd stored
      simp only [beq_self_eq_true, if_true, List.any_cons, decide_true, Bool.true_or, List.map_cons]
      rw [show (kvs.map fun kv => if kv.1 = ofCode nm k' then (kv.1, x) else kv) = kvs from by
        conv => rhs; rw [← List.map_id kvs]
        exact List.map_congr_left fun kv hm => if_neg (hno kv hm)]
      exact ⟨⟨hlt, rfl, rv⟩, rest⟩
    · have ih := sstored_rel hk rv hn.2 rest
      have e1 : (k' == k) = false := beq_eq_false_iff_ne.mpr e
      have e2 : ¬ ofCode nm k' = ofCode nm k := fun z => e (ofCode_inj hlt hk z)
      unfold upd
      unfold stored at ih ⊢
      simp only [e1, Bool.false_eq_true, if_false, List.any_cons, decide_eq_false e2, Bool.false_or, List.map_cons, if_neg e2]
      split at ih
      · rename_i h1; rw [if_pos h1]; exact ⟨⟨hlt, rfl, hr⟩, ih⟩
      · rename_i h1; rw [if_neg h1]; exact ⟨⟨hlt, rfl, hr⟩, ih⟩
  | [], _ :: _, _, r => r.elim
  | _ :: _, [], _, r => r.elim
theorem setItem_plain {l : Addr} {items : Array Value} {k : Int} {t : Tok} {v : Value} {Q : Unit → Shared → Prop} (hl : s.heap.PlainList l items) (h0 : 0 ≤ k) (hfit : k < 2 ^ 63) (hn : k < items.size)
    (hQ : ∀ h', h'.PlainList l (items.setIfInBounds k.toNat v) → Heap.SameBut l s.heap h' → Q () { s with heap := h' }) : wpAny g.M A (setItem (.ref l) (.int k t) v) Q E s := by
  obtain ⟨m, ho⟩ := id hl
  have hT := hl.isList.typeIs
  unfold setItem
  try with_reducible refine wpAny_holding ?_
  first | refine wpAny_bind (wpAny_pure ?_) | skip
  refine wpAny_bind (wpAny_sequenceKey hT (by decide) ?_)
  refine wpAny_bind (wpAny_callSpecial?_slot (name := Str.ofString "__setitem__") hT slot_list_setitem (wpAny_call_entry slot_list_setitem hT entry_list_setitem ?_ (args_list_setitem _ _ _)))
  show wpAny _ _ (Builtin.List.listSubscript? (.int k t) >>= _) _ _ s
  refine wpAny_bind (wpAny_listSubscript_int (fitsIndex_of h0 hfit) ?_)
  clear hfit
  obtain ⟨j, rfl⟩ := Int.eq_ofNat_of_zero_le h0
  have hj : j < items.size := by omega
  have hx' : items[j]? = some items[j] := Array.getElem?_eq_getElem hj
  show wpAny _ _ ((seqItemAt l j >>= fun r => pure (r.map (j, ·))) >>= _) _ _ s
  refine wpAny_bind (wpAny_bind (wpAny_seqItemAt ho rfl (wpAny_pure ?_)))
  rw [hx']
  show wpAny _ _ (setSeqItemAt l j v >>= _) _ _ s
  have hfin : (s.heap.update l (Obj.mapSeq (·.setIfInBounds j v))).PlainList l (items.setIfInBounds j v) := by
    have e := Heap.get?_update_self (Obj.mapSeq (·.setIfInBounds j v)) ho rfl
    simp only [Obj.mapSeq] at e
    exact ⟨_, e⟩
  refine wpAny_bind (wpAny_setSeqItemAt ho rfl ?_)
  first
    | exact wpAny_bind (wpAny_pure (wpAny_pure ⟨.none, rfl, wpAny_pure (hQ _ hfin (Heap.SameBut.update ..))⟩))
    | exact wpAny_pure ⟨.none, rfl, wpAny_pure (hQ _ hfin (Heap.SameBut.update ..))⟩
theorem setI_ok {Q : Unit → Shared → Prop} (R : Rp g s.heap T st) (ha : VR s.heap T x a) (hb : VR s.heap T y b) (hc : VR s.heap T z c) (he : setI st x y z = some st') (p : PstU g s T st' Q) : wpAny g.M A (setItem a b c) Q E s := by
  unfold setI at he
  split at he
  · rename_i i k
    obtain ⟨es, h1, h2⟩ := Option.bind_eq_some_iff.mp he
    obtain ⟨d, rfl, hd⟩ := ha
    obtain ⟨hk, t, rfl⟩ := hb
    obtain ⟨es', kvs, a1, a2, a3⟩ := R.sd d i hd
    rw [h1] at a1; cases a1
    split at h2
    · rename_i hz
      cases h2
      have hlen := a3.length
      have hnd : (kvs.map (·.1)).Nodup := let ⟨_, _, _, _, _, _, _, _, q⟩ := a2; q
      refine wpAny_setItem_pairs (strKind_is _ _ _ _) a2 (fun h' hd' hs => ?_) (by rw [sizeLine_eq]; omega)
      exact p h' _ T (same_evo hs hd rfl) (R.setSd hd (List.getElem?_eq_some_iff.mp h1).1 hs hd' (sstored_rel hk hc hnd a3))
    · cases h2
  · rename_i i k
    obtain ⟨es, h1, h2⟩ := Option.bind_eq_some_iff.mp he
    obtain ⟨d, rfl, hd⟩ := ha
    obtain ⟨t, rfl⟩ := hb
    obtain ⟨es', kvs, a1, a2, a3⟩ := R.dict d i hd
    rw [h1] at a1; cases a1
    split at h2
    · rename_i hz
      cases h2
      have hlen := a3.length
      refine wpAny_setItem_pairs (knd := oKind g.prog g.w) (k := some k) (by simp [oKind, isOI, Value.isInt]) a2 (fun h' hd' hs => ?_) (by rw [sizeLine_eq]; omega)
      exact p h' _ T (same_evo hs hd rfl) (R.setDict hd (List.getElem?_eq_some_iff.mp h1).1 hs hd' (stored_rel a3 hc))
    · cases h2
  · rename_i i k
    obtain ⟨vs, h1, h2⟩ := Option.bind_eq_some_iff.mp he
    obtain ⟨d, rfl, hd⟩ := ha
    obtain ⟨t, rfl⟩ := hb
    obtain ⟨vs', xs, a1, a2, a3⟩ := R.ml d i hd
    rw [h1] at a1; cases a1
    split at h2
    · rename_i hz
      cases h2
      have hlen := a3.length
      refine setItem_plain a2 hz.1 (by omega) (by rw [List.size_toArray]; omega) (fun h' hl' hs => ?_)
      refine p h' _ T (same_evo hs hd rfl) (R.setMl hd (List.getElem?_eq_some_iff.mp h1).1 hs (xs := xs.set k.toNat c) ?_ (a3.set hc))
      simpa using hl'
    · cases h2
  · cases he
end
end Mux
namespace Mux
open PySem PySem.W

/-- what the written part of the heap says of the text's classes -/
structure ClsOk (g : Glb) (K : Frag) (fa : Nat → Addr) (c : Nat) : Prop where
  get : plainGet K (g.ca c) Str.empty = true
  dict : hasDictIn K (g.ca c) = true
  set : findIn K (.ref (g.ca c)) "__setattr__" = some (some (.builtin "object.__setattr__"))
  over : plainOver K (g.ca c) = true
  attr : ∀ a, g.P.attr c a = true → a < nm.length ∧ findIn K (.ref (g.ca c)) (ofCode nm a) = some none ∧ takerIn K (g.ca c) (ofCode nm a) = some none
  meth : ∀ m f, g.P.meth c m = some f → findIn K (.ref (g.ca c)) (ofCode unm m) = some (some (.ref (fa f))) ∧ isFn K (.ref (fa f)) = true ∧ ∀ a, g.P.attr c a = true → ofCode nm a ≠ ofCode unm m
  makes : makesIn K (g.ca c) = true
  init : ∀ f, g.P.init c = some f → findIn K (.ref (g.ca c)) "__init__" = some (some (.ref (fa f))) ∧ typeIn K (.ref (fa f)) = some (.type "function")

theorem isStr_str (a b : Str) (t : Tok) : (Value.str a t).isStr b = (a == b) := rfl
theorem fget_rel {h : Heap} {T : TT} {ok : Nat → Bool} {a : Nat} (ha : a < nm.length) : ∀ {fs : Fields} {es : List DictEntry}, FR h T ok fs es → RO h T (lget a fs) ((es.find? (·.key.isStr (ofCode nm a))).map (·.val))
  | [], [], _ => trivial
  | (k, v) :: fs, e :: es, r => by
    obtain ⟨⟨hlt, _, ⟨t, hk⟩, hr⟩, rest⟩ := r
    have ih := fget_rel ha rest
    unfold lget
    simp only [List.find?_cons, hk, isStr_str]
    by_cases q : k = a
    · subst q; simp only [beq_self_eq_true, if_true, Option.map_some]; exact hr
    · have e1 : (k == a) = false := beq_eq_false_iff_ne.mpr q
      have e2 : (ofCode nm k == ofCode nm a) = false := beq_eq_false_iff_ne.mpr fun z => q (ofCode_inj hlt ha z)
      simp only [e1, e2, Bool.false_eq_true, if_false]
      exact ih
  | [], _ :: _, r => r.elim
  | _ :: _, [], r => r.elim
theorem fr_noref {h : Heap} {T : TT} {ok : Nat → Bool} : ∀ {fs : Fields} {es : List DictEntry}, FR h T ok fs es → es.any (·.refKey) = false
  | [], [], _ => rfl
  | (k, v) :: fs, e :: es, r => by
    obtain ⟨⟨hlt, _, ⟨t, hk⟩, hr⟩, rest⟩ := r
    simp only [List.any_cons, fr_noref rest, Bool.or_false]
    unfold DictEntry.refKey
    rw [hk]
  | [], _ :: _, r => r.elim
  | _ :: _, [], r => r.elim
theorem getL_of {h : Heap} {T : TT} {ok : Nat → Bool} {a : Nat} (ha : a < nm.length) {fs : Fields} {es : List DictEntry} {v : V} (r : FR h T ok fs es) (e : lget a fs = some v) : ∃ x, getL (ofCode nm a) es = some (some x) ∧ VR h T v x := by
  have q := fget_rel ha r
  rw [e] at q
  obtain ⟨x, hx, rx⟩ := q.some
  obtain ⟨en, hen, rfl⟩ := Option.map_eq_some_iff.mp hx
  exact ⟨en.val, by unfold getL; rw [hen], rx⟩
/-- a name that is no attribute of the class is not found among the object's own -/
theorem getL_none {h : Heap} {T : TT} {ok : Nat → Bool} {x : Str} {fs : Fields} {es : List DictEntry} (r : FR h T ok fs es) (hx : ∀ a, ok a = true → ofCode nm a ≠ x) : getL x es = some none := by
  have hn : es.find? (·.key.isStr x) = none := by
    rw [List.find?_eq_none]
    intro e he
    have : ∀ {fs : Fields} {es : List DictEntry}, FR h T ok fs es → e ∈ es → ¬ (e.key.isStr x = true) := by
      intro fs
      induction fs with
      | nil => intro es r hm; cases es with | nil => cases hm | cons _ _ => exact r.elim
      | cons f fs ih =>
        intro es r hm
        cases es with
        | nil => exact r.elim
        | cons e' es =>
          obtain ⟨⟨hlt, hok, ⟨t, hk⟩, hr⟩, rest⟩ := r
          rcases List.mem_cons.mp hm with rfl | hm
          · rw [hk, isStr_str, beq_iff_eq]; exact hx _ hok
          · exact ih rest hm
    exact this r he
  unfold getL
  rw [hn]
  simp only [fr_noref r, Bool.false_eq_true, if_false]
theorem putL_rel {h : Heap} {T : TT} {ok : Nat → Bool} {a : Nat} {v : V} {x : Value} {hsh : Int} {t : Tok} (ha : a < nm.length) (hok : ok a = true) (rv : VR h T v x) : ∀ {fs : Fields} {es : List DictEntry}, FR h T ok fs es → FR h T ok (upd a v fs) (putL (ofCode nm a) hsh (.str (ofCode nm a) t) x es)
  | [], [], _ => ⟨⟨ha, hok, ⟨t, rfl⟩, rv⟩, trivial⟩
  | (k, v') :: fs, e :: es, r => by
    obtain ⟨⟨hlt, hk', ⟨u, hk⟩, hr⟩, rest⟩ := r
    have ih := putL_rel (hsh := hsh) (t := t) ha hok rv rest
    unfold upd putL
    simp only [hk, isStr_str]
    by_cases q : k = a
    · subst q; simp only [beq_self_eq_true, if_true]; exact ⟨⟨hlt, hk', ⟨u, rfl⟩, rv⟩, rest⟩
    · have e1 : (k == a) = false := beq_eq_false_iff_ne.mpr q
      have e2 : (ofCode nm k == ofCode nm a) = false := beq_eq_false_iff_ne.mpr fun z => q (ofCode_inj hlt ha z)
      simp only [e1, e2, Bool.false_eq_true, if_false]
      exact ⟨⟨hlt, hk', ⟨u, hk⟩, hr⟩, ih⟩
  | [], _ :: _, r => r.elim
  | _ :: _, [], r => r.elim
theorem upd_length {α : Type} (k : Nat) (v : α) : ∀ l : List (Nat × α), (upd k v l).length ≤ l.length + 1
  | [] => Nat.le_refl _
  | (k', v') :: r => by unfold upd; split <;> simp; exact upd_length k v r
theorem FR.length {h : Heap} {T : TT} {ok : Nat → Bool} : ∀ {fs : Fields} {es : List DictEntry}, FR h T ok fs es → fs.length = es.length
  | [], [], _ => rfl
  | _ :: _, _ :: _, r => by simp [FR.length r.2]
  | [], _ :: _, r => r.elim
  | _ :: _, [], r => r.elim

section
variable {g : Glb} {K : Frag} {fa : Nat → Addr} {A : Around} {E : Value → Shared → Prop} {s : Shared} {T : TT} {st st' : St} {x y z v : V} {a b c : Value} {Q : Value → Shared → Prop} {n : Nat}

theorem instAt_of {d : Addr} {c n : Nat} (R : Rp g s.heap T st) (hd : T d = some (.inst c n)) : c < 4 ∧ ∃ dx fs es k, s.heap.get? d = some (instObj (g.ca c) dx) ∧ T dx = some (.attrs c n) ∧ (st.objs c)[n]? = some fs ∧ FR s.heap T (g.P.attr c) fs es ∧ s.heap.get? dx = some (dictOf es k) ∧
    PySem.W.InstAt s.heap d (instObj (g.ca c) dx) (g.ca c) (some (dictOf es k)) := by
  obtain ⟨hc, dx, h1, h2⟩ := R.inst d c n hd
  obtain ⟨_, fs, es, k, h3, h4, h5⟩ := R.attrs dx c n h2
  exact ⟨hc, dx, fs, es, k, h1, h2, h3, h5, h4, ⟨h1, rfl, rfl, h4⟩⟩

theorem handed_VR {h : Heap} {v : V} {x : Value} (r : VR h T v x) : handedIn x = true := by
  cases v with
  | none => cases r; rfl
  | bool _ => cases r; rfl
  | int _ => obtain ⟨t, rfl⟩ := r; rfl
  | str _ => obtain ⟨_, t, rfl⟩ := r; rfl
  | bytes _ => obtain ⟨t, rfl⟩ := r; rfl
  | list _ => obtain ⟨d, _, rfl, _⟩ := r; rfl
  | tup _ => obtain ⟨d, _, rfl, _⟩ := r; rfl
  | obj _ _ => obtain ⟨d, rfl, _⟩ := r; rfl
  | dict _ => obtain ⟨d, rfl, _⟩ := r; rfl
  | sd _ => obtain ⟨d, rfl, _⟩ := r; rfl
  | ml _ => obtain ⟨d, rfl, _⟩ := r; rfl

theorem getA_ok {expr : Bool} {i : Nat} (X : K.In g.h₀) (C : ∀ c < 4, ClsOk g K fa c) (R : Rp g s.heap T st) (ha : VR s.heap T x a) (he : getA g.P st i x = some v) (p : Pst g s T st v Q) : wpAny g.M A (getAttr a (ofCode nm i) expr) Q E s := by
  unfold getA at he
  split at he
  · rename_i c m
    split at he
    · rename_i hat
      obtain ⟨fs, h1, h2⟩ := Option.bind_eq_some_iff.mp he
      obtain ⟨d, rfl, hd⟩ := ha
      obtain ⟨hc, dx, fs', es, k, b1, b2, b3, b4, b5, I⟩ := instAt_of R hd
      rw [h1] at b3; cases b3
      have Y := C c hc
      obtain ⟨hi, hf, _⟩ := Y.attr i hat
      obtain ⟨w, hw, rw'⟩ := getL_of hi b4 h2
      exact get_value (X.keeps R.keep) I (plainGet_of (name := Str.empty) Y.get).1 (findObj_own Y.dict hf rfl hw) (handed_VR rw') (p.now R rw')
    · cases he
  · cases he

theorem setA_ok {Q : Unit → Shared → Prop} {i : Nat} (X : K.In g.h₀) (C : ∀ c < 4, ClsOk g K fa c) (R : Rp g s.heap T st) (ha : VR s.heap T x a) (hv : VR s.heap T v b) (he : setA g.P st i v x = some st') (p : PstU g s T st' Q) : wpAny g.M A (setAttr a (ofCode nm i) b) Q E s := by
  unfold setA at he
  split at he
  · rename_i c m
    split at he
    · rename_i hat
      obtain ⟨fs, h1, h2⟩ := Option.bind_eq_some_iff.mp he
      split at h2
      · rename_i hz
        cases h2
        obtain ⟨d, rfl, hd⟩ := ha
        obtain ⟨hc, dx, fs', es, k, b1, b2, b3, b4, b5, I⟩ := instAt_of R hd
        rw [h1] at b3; cases b3
        have Y := C c hc
        obtain ⟨hi, hf, ht⟩ := Y.attr i hat
        have X' := X.keeps R.keep
        refine set_plain X' I Y.set ?_
        refine osa_open (s := { s with toks := s.toks + 1 }) X' I Y.over ht fun bb => ?_
        obtain ⟨cd, hcd, hdict⟩ := any_some Y.dict
        refine wpAny_bind (wpAny_pure (wpAny_bind (wpAny_bind (wpAny_loadPart (o := instObj (g.ca c) dx) b1 (wpAny_bind (Looks.here (s := { s with toks := s.toks + 1 }) (looks_clsIn X' hcd) ?_))))))
        rw [hdict]
        refine wpAny_pure (a := some dx) (wpAny_bind (wpAny_pure (wpAny_bind ?_)))
        unfold nsSet
        refine wpAny_bind (wpAny_bind (wpAny_askSetting (wpAny_pure (wpAny_bind (wpAny_mkText (wpAny_bind (wpAny_loadPart (o := dictOf es k) b5 ?_)))))))
        dsimp only
        have cc : aRefKeyMayBeTheName (ofCode nm i) es.toArray = false := by
          rw [aRefKeyMayBeTheName_at]
          have : es.toArray.any (·.refKey) = false := by rw [← Array.any_toList]; exact fr_noref b4
          rw [this, Bool.and_false]
        rw [cc]
        refine wpAny_updatePart (o := dictOf es k) b5 ?_
        have hup := Heap.get?_update_self (h := s.heap) (a := dx) (Obj.putName (ofCode nm i) (PyData.keyHash g.w.params (ofCode nm i)) (.str (ofCode nm i) (s.toks + 1)) b) b5 (by rw [putName_dict]; rfl)
        rw [putName_dict] at hup
        have rel := putL_rel (hsh := PyData.keyHash g.w.params (ofCode nm i)) (t := s.toks + 1) hi hat hv b4
        have hlen := rel.length
        have hlen' := upd_length i v fs
        refine wpAny_bind (wpAny_lookBehind (o := dictOf _ _) hup (pastItsLine_dict (by rw [List.size_toArray, sizeLine_eq]; omega)) ?_)
        refine wpAny_pure ?_
        exact p _ _ T (same_evo (Heap.SameBut.update ..) b2 rfl) (R.setAttrs b2 h1 (Heap.SameBut.update ..) hup rel)
      · cases h2
    · cases he
  · cases he
end
end Mux
namespace Mux
open PySem PySem.W

/-! pure facts of the sorted, the greatest, the least -/
theorem insI_perm (x : Int) : ∀ l, (insI x l).Perm (x :: l)
  | [] => .refl _
  | y :: r => by
    unfold insI
    split
    · exact .refl _
    · exact ((insI_perm x r).cons y).trans (.swap ..)
theorem sortI_perm : ∀ l, (sortI l).Perm l
  | [] => .refl _
  | x :: r => (insI_perm x (sortI r)).trans ((sortI_perm r).cons x)
theorem insI_asc (x : Int) : ∀ {l : List Int}, l.Pairwise (· ≤ ·) → (insI x l).Pairwise (· ≤ ·)
  | [], _ => by simp [insI]
  | y :: r, h => by
    unfold insI
    have h' := List.pairwise_cons.mp h
    split
    · rename_i q
      refine List.pairwise_cons.mpr ⟨fun z hz => ?_, h⟩
      rcases List.mem_cons.mp hz with rfl | hz
      · exact q
      · exact Int.le_trans q (h'.1 z hz)
    · rename_i q
      refine List.pairwise_cons.mpr ⟨fun z hz => ?_, insI_asc x h'.2⟩
      rcases List.mem_cons.mp ((insI_perm x r).mem_iff.mp hz) with rfl | hz
      · omega
      · exact h'.1 z hz
theorem sortI_asc : ∀ l : List Int, (sortI l).Pairwise (· ≤ ·)
  | [] => .nil
  | x :: r => insI_asc x (sortI_asc r)
theorem foldMax_spec : ∀ (r : List Int) (x : Int), (r.foldl (fun a b => if b > a then b else a) x ∈ x :: r) ∧ ∀ y ∈ x :: r, y ≤ r.foldl (fun a b => if b > a then b else a) x
  | [], x => ⟨by simp, by simp⟩
  | z :: r, x => by
    obtain ⟨h1, h2⟩ := foldMax_spec r (if z > x then z else x)
    simp only [List.foldl_cons]
    refine ⟨?_, fun y hy => ?_⟩
    · rcases List.mem_cons.mp h1 with e | e
      · rw [e]; split <;> simp
      · simp [e]
    · have h0 := h2 _ (.head _)
      rcases List.mem_cons.mp hy with rfl | hy
      · refine Int.le_trans ?_ h0; split <;> omega
      · rcases List.mem_cons.mp hy with rfl | hy
        · refine Int.le_trans ?_ h0; split <;> omega
        · exact h2 y (.tail _ hy)
theorem foldMin_spec : ∀ (r : List Int) (x : Int), (r.foldl (fun a b => if b < a then b else a) x ∈ x :: r) ∧ ∀ y ∈ x :: r, r.foldl (fun a b => if b < a then b else a) x ≤ y
  | [], x => ⟨by simp, by simp⟩
  | z :: r, x => by
    obtain ⟨h1, h2⟩ := foldMin_spec r (if z < x then z else x)
    simp only [List.foldl_cons]
    refine ⟨?_, fun y hy => ?_⟩
    · rcases List.mem_cons.mp h1 with e | e
      · rw [e]; split <;> simp
      · simp [e]
    · have h0 := h2 _ (.head _)
      rcases List.mem_cons.mp hy with rfl | hy
      · refine Int.le_trans h0 ?_; split <;> omega
      · rcases List.mem_cons.mp hy with rfl | hy
        · refine Int.le_trans h0 ?_; split <;> omega
        · exact h2 y (.tail _ hy)
theorem maxI_spec {l : List Int} {m : Int} (h : maxI l = some m) : m ∈ l ∧ ∀ y ∈ l, y ≤ m := by
  cases l with
  | nil => cases h
  | cons x r => cases h; exact foldMax_spec r x
theorem minI_spec {l : List Int} {m : Int} (h : minI l = some m) : m ∈ l ∧ ∀ y ∈ l, m ≤ y := by
  cases l with
  | nil => cases h
  | cons x r => cases h; exact foldMin_spec r x

/-! int lists as values -/
theorem ints_of {h : Heap} {T : TT} : ∀ {vs : List Value} {ns : List Int}, PyProof.Rows.IntsAre vs ns → VRs h T (ns.map V.int) vs
  | _, _, .nil => trivial
  | _, _, .cons n t r => ⟨⟨t, rfl⟩, ints_of r⟩
theorem ints_to {h : Heap} {T : TT} : ∀ {vs : List Value} {ns : List Int}, VRs h T (ns.map V.int) vs → PyProof.Rows.IntsAre vs ns
  | [], [], _ => .nil
  | x :: vs, n :: ns, r => by obtain ⟨⟨t, rfl⟩, r'⟩ := r; exact .cons n t (ints_to r')
  | [], _ :: _, r => r.elim
  | _ :: _, [], r => r.elim
theorem DR.keys {h : Heap} {T : TT} : ∀ {es : List (Int × V)} {kvs : List (Option Int × Value)}, DR h T es kvs → kvs.map (·.1) = es.map fun p => some p.1
  | [], [], _ => rfl
  | (k, v) :: es, (q, x) :: kvs, r => by rw [List.map_cons, List.map_cons, DR.keys r.2]; exact congrArg (· :: _) r.1.1
  | [], _ :: _, r => r.elim
  | _ :: _, [], r => r.elim
theorem items_ints {prog : Program} {w : World} {kvs : List (Option Int × Value)} {ks : List Int} {vs : List Value} (e : kvs.map (·.1) = ks.map some) (hl : vs.length = kvs.length)
    (hv : ∀ (j : Nat) (v : Value), vs[j]? = some v → ∃ k x, kvs[j]? = some (k, x) ∧ (oKind prog w).is k v = true) : PyProof.Rows.IntsAre vs ks := by
  induction vs generalizing kvs ks with
  | nil =>
    cases kvs with
    | nil => cases ks with
      | nil => exact .nil
      | cons _ _ => cases e
    | cons _ _ => simp at hl
  | cons v vs ih =>
    cases kvs with
    | nil => simp at hl
    | cons kv kvs =>
      cases ks with
      | nil => cases e
      | cons k ks =>
        simp only [List.map_cons, List.cons.injEq] at e
        obtain ⟨k', x, h1, h2⟩ := hv 0 v rfl
        simp only [List.getElem?_cons_zero, Option.some.injEq] at h1
        subst h1
        dsimp only at e
        rw [e.1] at h2
        obtain ⟨t, rfl⟩ := isOI_some h2
        exact .cons k t (ih e.2 (by simpa using hl) fun j v' hj => hv (j + 1) v' (by simpa using hj))

section
variable {g : Glb} {K : Frag} {fa : Nat → Addr} {A : Around} {E : Value → Shared → Prop} {s : Shared} {T : TT} {st st' : St} {x y z v : V} {a b c : Value} {Q : Value → Shared → Prop} {n : Nat}

theorem collect_kdl {T : String} {r d : Addr} {n : Nat} {P : Nat → Value → Prop} {OK : Heap → Prop} {Q : List Value → Shared → Prop} (X : KdlSrc g.prog g.w T r d n P OK) (hh : A.handled = none) (hok : OK s.heap) (hn : n ≤ sizeLine)
    (hQ : ∀ h' tk acc, s.heap.objs.size < h'.objs.size → (∀ b o, s.heap.get? b = some o → h'.get? b = some o) → ItemsOf P acc n → Q acc.toList { s with heap := h', toks := tk }) :
    wpAny g.M A (collect (.ref r)) Q E s := by
  have hlt := X.there _ hok
  have keeps : ∀ b o, s.heap.get? b = some o → (s.heap.push { cls := .type "list", data := .seq ([] : List Value).toArray }).get? b = some o := fun b o e => Heap.get?_push_of_some _ e
  have key : wpAny g.M A (runValue (.builtin "proto.collect" ⟨[.ref r], []⟩)) (fun v s' => ∃ h' tk acc c, v = .ref s.heap.objs.size ∧ s' = { s with heap := h', toks := tk } ∧ (∀ b o, s.heap.get? b = some o → h'.get? b = some o) ∧ ItemsOf P acc n ∧
      h'.get? s.heap.objs.size = some { cls := .type "list", dict := none, data := .seq acc c, slots := #[] }) E s := by
    refine wpAny_runValue (codeAny_builtin PySem.F.entry_proto_collect ?_)
    rw [Around.under_plainId PySem.F.plain_proto_collect _]
    show wpAny _ A.in1 (newList [] >>= fun l => again (.builtin "list.__iadd__" ⟨[l, .ref r], []⟩)) _ _ s
    refine wpAny_bind (wpAny_newObj_type ?_)
    refine wpAny_pure ⟨plainId_quiet PySem.F.plain_list_iadd _, codeAny_builtin PySem.F.entry_list_iadd ?_⟩
    rw [Around.under_plainId PySem.F.plain_list_iadd _]
    show wpAny _ A.in1 (Builtin.List.listExtendWith (.ref s.heap.objs.size) (.ref r) (.ref s.heap.objs.size)) _ _ _
    have hS : (s.heap.push { cls := .type "list", data := .seq ([] : List Value).toArray }).get? s.heap.objs.size = some { cls := .type "list", data := .seq ([] : List Value).toArray } := Heap.get?_push_size _ rfl
    exact kdl_extend (s := { s with heap := s.heap.push { cls := .type "list", data := .seq ([] : List Value).toArray } }) (R := fun r s' => match r with
      | .ok (.ret v) => ∃ h' tk acc c, v = .ref s.heap.objs.size ∧ s' = { s with heap := h', toks := tk } ∧ (∀ b o, s.heap.get? b = some o → h'.get? b = some o) ∧ ItemsOf P acc n ∧ h'.get? s.heap.objs.size = some { cls := .type "list", dict := none, data := .seq acc c, slots := #[] }
      | .ok _ => False
      | .error e => E e s') X hh (X.keep _ _ hok fun b _ o e => keeps b o e) s.heap.objs.size (Nat.ne_of_gt hlt.1) (Nat.ne_of_gt hlt.2) (.ref s.heap.objs.size) _ hS (fun h' tk acc' c' hk hS' hacc => ⟨h', tk, acc', c', rfl, rfl, fun b o e => hk b o (Nat.ne_of_lt (Heap.lt_size e)) (keeps b o e), hacc, hS'⟩) hn
  unfold collect
  refine wpAny_bind (wpAny_mono key (fun v s' h => ?_) fun _ _ x => x)
  obtain ⟨h', tk, acc, c, rfl, rfl, hk, hacc, hS'⟩ := h
  show wpAny _ A (load s.heap.objs.size >>= _) _ _ _
  refine wpAny_bind (wpAny_load hS' ?_)
  exact wpAny_pure (hQ h' tk acc (Heap.lt_size hS') hk hacc)

/-- an int dict as a source of its keys -/
theorem dict_src {d : Addr} {i : Nat} {es : List (Int × V)} (hb : True) (R : Rp g s.heap T st) (hd : T d = some (.dict i)) (he : st.dicts[i]? = some es) :
    ∃ kvs ep, s.heap.DictAt (oKind g.prog g.w) d kvs ep ∧ s.heap.DictOf (oKind g.prog g.w) d kvs ∧ DR s.heap T es kvs ∧ (d == sysModules) = false := by
  obtain ⟨es', kvs, a1, a2, a3⟩ := R.dict d i hd
  rw [he] at a1; cases a1
  obtain ⟨ep, h⟩ := a2.dictAt
  exact ⟨kvs, ep, h, a2, a3, notMods hb R hd⟩

theorem sorted_ok {d : Addr} {i : Nat} {es : List (Int × V)} (hb : True) (r : Rm A n) (R : Rp g s.heap T st) (hd : T d = some (.dict i)) (he : st.dicts[i]? = some es) (hz : es.length < 64)
    (p : Pst g s T st (.list ((sortI (es.map (·.1))).map .int)) Q) : wpAny g.M A (call (.builtin "sorted") [.ref d]) Q E s := by
  obtain ⟨kvs, ep, h1, h2, h3, h4⟩ := dict_src hb R hd he
  have hlen := h3.length
  refine Calls.call_function_entry PyProof.Rows.kind_sorted PyProof.Rows.plain_sorted PyProof.Rows.entry_sorted (PyProof.Rows.args_sorted1 _) ?_
  unfold Builtin.«sorted»
  refine wpAny_bind (m := checkCount "sorted" 1 1 _) (wpAny_pure ?_)
  refine wpAny_bind (collect_kdl (kdl_dict h4) r.handled h1 (by rw [sizeLine_eq]; omega) fun h' tk acc hsz hk hacc => ?_)
  have hints : PyProof.Rows.IntsAre acc.toList (es.map (·.1)) := items_ints (prog := g.prog) (w := g.w) (by rw [h3.keys]; simp) (by rw [Array.length_toList]; exact hacc.1) fun j v e => hacc.2 j v (by rw [← Array.getElem?_toList]; exact e)
  have hl2 : acc.toList.length = es.length := by rw [Array.length_toList, hacc.1, hlen]
  refine wpAny_bind (wpAny_newList ?_ (by first | (show acc.toList.toArray.size ≤ sizeLine; rw [List.size_toArray, hl2, sizeLine_eq]; omega)))
  have ho : (h'.push { cls := .type "list", data := .seq acc.toList.toArray }).get? h'.objs.size = some (PyProof.Rows.seqObj "list" acc.toList.toArray 0) := Heap.get?_push_size _ rfl
  refine wpAny_bind (wpAny_holding (wpAny_call_entry PyProof.Rows.slot_list_sort ⟨_, ho, rfl⟩ PyProof.Rows.entry_list_sort (PyProof.Rows.list_sort_tree (s := { s with heap := h'.push { cls := .type "list", data := .seq acc.toList.toArray }, toks := tk }) ho hints (by rw [hl2]; exact hz) fun out ns' a1 a2 a3 => ⟨_, rfl, ?_⟩) (PyProof.Rows.args_list_sort _)))
  refine wpAny_pure ⟨_, rfl, ?_⟩
  have hns : ns' = sortI (es.map (·.1)) := ksm_same (a2.trans (sortI_perm _).symm) a3 (sortI_asc _)
  subst hns
  have hat : (PyProof.Rows.sortedHeap (h'.push { cls := .type "list", data := .seq acc.toList.toArray }) h'.objs.size acc.toList out).PlainList h'.objs.size out := by
    obtain ⟨e1, ho1⟩ := (⟨_, PyProof.Rows.get?_update_seq ho (fun _ => #[])⟩ : ∃ e1, ((h'.push { cls := .type "list", data := .seq acc.toList.toArray }).update h'.objs.size (Obj.mapSeq fun _ => #[])).get? h'.objs.size = some (PyProof.Rows.seqObj "list" #[] e1))
    have ho2 := Heap.get?_push_of_some (PyProof.Rows.seqObj "list" #[] 0) (Heap.get?_push_of_some (PyProof.Rows.seqObj "tuple" acc.toList.toArray 0) ho1)
    exact ⟨_, PyProof.Rows.get?_update_seq ho2 (fun _ => out)⟩
  refine p.newList (s := { s with toks := tk }) (tk := tk) (d := h'.objs.size) R (ints_of a1) (Nat.le_of_lt hsz) (fun b o e => ?_) (by simpa using hat)
  · have e := hk b o e
    have hb : b ≠ h'.objs.size := Nat.ne_of_lt (Heap.lt_size e)
    unfold PyProof.Rows.sortedHeap
    exact (Heap.get?_update_other _ _ (Ne.symm hb)).trans (Heap.get?_push_of_some _ (Heap.get?_push_of_some _ ((Heap.get?_update_other _ _ (Ne.symm hb)).trans (Heap.get?_push_of_some _ e))))

theorem ints_get {vs : List Value} {ns : List Int} (h : PyProof.Rows.IntsAre vs ns) : ∀ (i : Nat) (v : Value), vs[i]? = some v → ∃ t, v = .int (ns.getD i 0) t := by
  induction h with
  | nil => intro i v e; simp at e
  | cons n t r ih =>
    intro i v e
    cases i with
    | zero => simp at e; exact ⟨t, by rw [← e]; rfl⟩
    | succ i => simp at e; obtain ⟨u, hu⟩ := ih i v e; exact ⟨u, by simpa using hu⟩
theorem dictKeys_val {kvs : List (Option Int × Value)} {ks : List Int} (e : kvs.map (·.1) = ks.map some) : ∀ i v, (∃ k x, kvs[i]? = some (k, x) ∧ (oKind g.prog g.w).is k v = true) → ∃ t, v = .int (ks.getD i 0) t := by
  rintro i v ⟨k, x, h1, h2⟩
  have : (kvs.map (·.1))[i]? = some k := by rw [List.getElem?_map, h1]; rfl
  rw [e, List.getElem?_map] at this
  obtain ⟨k', h3, rfl⟩ := Option.map_eq_some_iff.mp this
  obtain ⟨t, rfl⟩ := isOI_some h2
  exact ⟨t, by rw [List.getD_eq_getElem?_getD, h3]; rfl⟩
theorem max_at {ks : List Int} {m : Int} (h : maxI ks = some m) : ks.getD (argBest (fun i j => decide (ks.getD i 0 > ks.getD j 0)) (ks.length - 1)) 0 = m := by
  obtain ⟨h1, h2⟩ := maxI_spec h
  have hpos : 0 < ks.length := List.length_pos_of_mem h1
  obtain ⟨a1, a2⟩ := argBest_gt (fun i => ks.getD i 0) (ks.length - 1)
  obtain ⟨j, hj, e⟩ := List.getElem_of_mem h1
  have b1 := a2 j (by omega)
  simp only [List.getD_eq_getElem?_getD] at b1 a1 ⊢
  rw [List.getElem?_eq_getElem hj, Option.getD_some, e] at b1
  have hlt : argBest (fun i j => decide (ks[i]?.getD 0 > ks[j]?.getD 0)) (ks.length - 1) < ks.length := by omega
  rw [List.getElem?_eq_getElem hlt, Option.getD_some] at b1 ⊢
  exact Int.le_antisymm (h2 _ (List.getElem_mem hlt)) b1
theorem min_at {ks : List Int} {m : Int} (h : minI ks = some m) : ks.getD (argBest (fun i j => decide (ks.getD i 0 < ks.getD j 0)) (ks.length - 1)) 0 = m := by
  obtain ⟨h1, h2⟩ := minI_spec h
  have hpos : 0 < ks.length := List.length_pos_of_mem h1
  obtain ⟨a1, a2⟩ := argBest_lt (fun i => ks.getD i 0) (ks.length - 1)
  obtain ⟨j, hj, e⟩ := List.getElem_of_mem h1
  have b1 := a2 j (by omega)
  simp only [List.getD_eq_getElem?_getD] at b1 a1 ⊢
  rw [List.getElem?_eq_getElem hj, Option.getD_some, e] at b1
  have hlt : argBest (fun i j => decide (ks[i]?.getD 0 < ks[j]?.getD 0)) (ks.length - 1) < ks.length := by omega
  rw [List.getElem?_eq_getElem hlt, Option.getD_some] at b1 ⊢
  exact Int.le_antisymm b1 (h2 _ (List.getElem_mem hlt))

theorem best_ok {d : Addr} {i : Nat} {es : List (Int × V)} {m : Int} {u : Bool} (hb : True) (r : Rm A n) (R : Rp g s.heap T st) (hd : T d = some (.dict i)) (he : st.dicts[i]? = some es) (hm : (if u then maxI (es.map (·.1)) else minI (es.map (·.1))) = some m)
    (p : Pst g s T st (.int m) Q) : wpAny g.M A (call (.builtin (if u then "max" else "min")) [.ref d]) Q E s := by
  obtain ⟨kvs, ep, h1, h2, h3, h4⟩ := dict_src hb R hd he
  have hlen := h3.length
  have hkeys : kvs.map (·.1) = (es.map (·.1)).map some := by rw [h3.keys]; simp
  have hne : 0 < kvs.length := by
    rw [← hlen]
    cases es with
    | nil => cases u <;> cases hm
    | cons _ _ => simp
  have val := dictKeys_val (g := g) (kvs := kvs) hkeys
  have hh : A.in1.handled = none := r.handled
  have W := Walks.dictKeys (prog := g.prog) (w := g.w) (knd := oKind g.prog g.w) (A := A.in1) hh s.heap.objs.size d (Nat.ne_of_lt h1.lt_size) kvs ep
  have st0 : (fun i h => h.IsKeyIter s.heap.objs.size d i kvs.length ep ∧ h.DictAt (oKind g.prog g.w) d kvs ep) 0 (s.heap.push { cls := .type "dict_keyiterator", data := .fields #[.ref d, .int 0 0, .int kvs.length 0, .int ep 0] }) := ⟨⟨_, Heap.get?_push_size _ rfl, rfl, rfl⟩, h1.push _⟩
  have fin : ∀ (v : Value) (h' : Heap) (tk : Nat), (∃ t, v = .int m t) → (∀ b o, b ∉ [s.heap.objs.size] → (s.heap.push { cls := .type "dict_keyiterator", data := .fields #[.ref d, .int 0 0, .int kvs.length 0, .int ep 0] }).get? b = some o → h'.get? b = some o) → Q v { s with heap := h', toks := tk } := by
    rintro v h' tk ⟨t, rfl⟩ hk
    have k : ∀ b o, s.heap.get? b = some o → h'.get? b = some o := fun b o e => hk b o (by simpa using Nat.ne_of_lt (Heap.lt_size e)) (Heap.get?_push_of_some _ e)
    exact p h' tk T _ (.grow k) (R.grow k) ⟨t, rfl⟩
  have fp : ∀ b ∈ [s.heap.objs.size, d], b < (s.heap.push { cls := .type "dict_keyiterator", data := .fields #[.ref d, .int 0 0, .int kvs.length 0, .int ep 0] }).objs.size := fun b hb => by
    rw [Heap.size_push]
    rcases List.mem_cons.mp hb with rfl | hb
    · omega
    · rw [List.mem_singleton.mp hb]; exact Nat.lt_succ_of_lt h1.lt_size
  cases u with
  | true =>
    refine call_max_walk (wpAny_pyIter_dict h4 h1 ⟨_, _, _, _, _, _, _, rfl, W, st0, fp, hne, CmpOf.ints_gt (fun i => (es.map (·.1)).getD i 0) val, fun v h' tk hP hk => fin v h' tk ?_ hk⟩)
    obtain ⟨t, ht⟩ := val _ _ hP
    refine ⟨t, ht.trans ?_⟩
    have := max_at hm
    rw [List.length_map, hlen] at this
    rw [this]
  | false =>
    refine call_min_walk (wpAny_pyIter_dict h4 h1 ⟨_, _, _, _, _, _, _, rfl, W, st0, fp, hne, CmpOf.ints_lt (fun i => (es.map (·.1)).getD i 0) val, fun v h' tk hP hk => fin v h' tk ?_ hk⟩)
    obtain ⟨t, ht⟩ := val _ _ hP
    refine ⟨t, ht.trans ?_⟩
    have := min_at hm
    rw [List.length_map, hlen] at this
    rw [this]
end
end Mux
namespace Mux
open PySem PySem.W
theorem list_no_keys : typeLookup (.type "list") "keys" = pure none := am_miss_of_fast (by kernel_rfl)
theorem entry_dict_update_loop : entryFor table "dict.update.loop" = some Builtin.«dict.update.loop» := entryFor_of_tree (by kernel_rfl)
theorem plain_dict_update_loop : plainId "dict.update.loop" = true := by decide +kernel

theorem keys_miss_list {prog : Program} {w : World} {A : Around} {E : Value → Shared → Prop} {s : Shared} {a : Addr} {xs : Array Value} {k : Nat} {Q : Option Value → Shared → Prop}
    (hx : s.heap.get? a = some { cls := .type "list", data := .seq xs k }) (hA : A.handled = none)
    (h : ∀ h' tk, (∀ b o, s.heap.get? b = some o → h'.get? b = some o) → Q none { s with heap := h', toks := tk }) :
    wpAny (model prog w) A (getAttr? (.ref a) "keys") Q E s := by
  obtain ⟨hp, g, d, tk, os⟩ := s
  have hT : ∀ tk', (⟨hp, g, d, tk', os⟩ : Shared).TypeIs (.ref a) "list" := fun _ => ⟨_, hx, rfl⟩
  have f1 := sub_AttributeError
  have f3 := PySem.F.slot_list_getattribute.lookup
  have f4 := PySem.F.slot_list_getattribute.bind (.ref a)
  have f5 := am_list_getattr_none
  unfold getAttr? getAttrBy? getAttrBy
  repeat (any_goals (first | assumption | exact hT _ | ((with_reducible show wpAny _ _ (call (Value.builtin "list.__getattribute__") _ _) _ _ _); refine call_meets PySem.F.slot_list_getattribute (hT _) am_entry_list_getattribute (PySem.F.args_list_getattribute_2 _ _) (meets_getattribute_miss_list a xs k #[] "keys" _ list_no_keys (by decide +kernel) (by size_fits)) ⟨hx, hA, fun h' tk' e hx' => ?_⟩) | wp_step))
  obtain ⟨t', u', he⟩ := hx'.there
  show wpAny _ _ (getattributeRaised _ _ _ _ _ _ _) _ _ _
  unfold getattributeRaised
  repeat (any_goals (first | assumption | wp_step))
  exact h _ _ hx'.keeps

/-- places of a list that hold pairs: a key, a value -/
def TP (h : Heap) : List Value → List (Option Int × Value) → Prop
  | [], [] => True
  | x :: xs, p :: ps => (∃ b kv, x = .ref b ∧ h.IsTuple b #[kv, p.2] ∧ isOI p.1 kv = true) ∧ TP h xs ps
  | _, _ => False
theorem TP.keep {h h' : Heap} (k : ∀ b items, h.IsTuple b items → h'.IsTuple b items) : ∀ {xs ps}, TP h xs ps → TP h' xs ps
  | [], [], _ => trivial
  | _ :: _, _ :: _, q => ⟨let ⟨b, kv, e, t, i⟩ := q.1; ⟨b, kv, e, k b _ t, i⟩, TP.keep k q.2⟩
  | [], _ :: _, q => q.elim
  | _ :: _, [], q => q.elim
theorem TP.length {h : Heap} : ∀ {xs ps}, TP h xs ps → xs.length = ps.length
  | [], [], _ => rfl
  | _ :: _, _ :: _, q => by simp [TP.length q.2]
  | [], _ :: _, q => q.elim
  | _ :: _, [], q => q.elim
theorem tuple_keep {h h' : Heap} {d : Addr} (hs : Heap.ExtBut d h h') (hd : ∀ o, h.get? d = some o → o.cls ≠ .type "tuple") : ∀ b items, h.IsTuple b items → h'.IsTuple b items :=
  fun b items ⟨o, ho, hc, r⟩ => ⟨o, hs b o (fun e => by subst e; exact hd o ho hc) ho, hc, r⟩

section
variable {prog : Program} {w : World} {A : Around} {R : Result → Shared → Prop} {knd : KeyKind prog w (Option Int)}
theorem update_loop {I l d : Addr} (hh : A.handled = none) (hl : l ≠ I) (hd : d ≠ I) (hdl : d ≠ l) (items : List Value) :
    ∀ (ps : List (Option Int × Value)) (i : Nat) (j : Int) (s : Shared) (acc : List (Option Int × Value)), TP s.heap (items.drop i) ps → s.heap.IsListIter I l i → s.heap.IsList l items.toArray → s.heap.DictOf (oKind prog w) d acc → acc.length + ps.length ≤ sizeLine →
    (∀ h' tk, h'.DictOf (oKind prog w) d (merged acc ps) → (∀ b o, b ≠ I → b ≠ d → s.heap.get? b = some o → h'.get? b = some o) → R (.ok (.ret .none)) { s with heap := h', toks := tk }) →
    codeAny (model prog w) A (.builtin "dict.update.loop" ⟨[.ref d, .ref I, .int j 0, .none], []⟩) R s := by
  intro ps
  induction ps with
  | nil =>
    intro i j s acc tp hI hL hD hz hR
    have hi : items[i]? = none := by
      cases q : items.drop i with
      | nil => exact List.getElem?_eq_none (List.drop_eq_nil_iff.mp q)
      | cons _ _ => rw [q] at tp; exact tp.elim
    refine codeAny_builtin entry_dict_update_loop ?_
    rw [Around.under_plainId plain_dict_update_loop _]
    show wpAny _ A.in1 (pyNext (.ref I) >>= _) _ _ s
    refine wpAny_bind (wpAny_pyNext_list_end (A := A.in1) hh hI hL (by simpa using hi) fun h' hs => ?_)
    show wpAny _ A.in1 (Builtin.Dict.addKeywords d [] >>= fun _ => ret .none) _ _ _
    refine wpAny_bind (wpAny_pure (wpAny_pure ?_))
    exact hR h' _ (hD.extBut hs hd) fun b o hb _ e => hs b o hb e
  | cons p ps ih =>
    intro i j s acc tp hI hL hD hz hR
    obtain ⟨x, hx, tp1, tp2⟩ : ∃ x, items[i]? = some x ∧ (∃ b kv, x = .ref b ∧ s.heap.IsTuple b #[kv, p.2] ∧ isOI p.1 kv = true) ∧ TP s.heap (items.drop (i + 1)) ps := by
      cases q : items.drop i with
      | nil => rw [q] at tp; exact tp.elim
      | cons x r =>
        rw [q] at tp
        have hlt : i < items.length := by
          rcases Nat.lt_or_ge i items.length with h | h
          · exact h
          · rw [List.drop_eq_nil_of_le h] at q; cases q
        rw [List.drop_eq_getElem_cons hlt] at q
        cases q
        exact ⟨_, List.getElem?_eq_getElem hlt, tp⟩
    obtain ⟨b, kv, rfl, hb, hk⟩ := tp1
    refine codeAny_builtin entry_dict_update_loop ?_
    rw [Around.under_plainId plain_dict_update_loop _]
    show wpAny _ A.in1 (pyNext (.ref I) >>= _) _ _ s
    refine wpAny_bind (wpAny_pyNext_list_item hI hL (by simpa using hx) fun h1 hI1 hs1 => ?_)
    obtain ⟨oI, hoI, hcI, _⟩ := id hI
    have k1 := tuple_keep hs1.extBut (fun o ho => by rw [hoI] at ho; cases ho; rw [hcI]; decide)
    have hD1 := hD.extBut hs1.extBut hd
    have hL1 : h1.IsList l items.toArray := hL.extBut hs1.extBut hl
    refine wpAny_bind (wpAny_holding ?_)
    have hb1 := k1 _ _ hb
    obtain ⟨o, ho, hc, m, hdat⟩ := id hb1
    refine wpAny_bind (wpAny_tryCatch ?_)
    unfold Builtin.Dict.pairItems
    refine wpAny_bind (wpAny_typeOf (s := { s with heap := h1 }) (T := "tuple") ⟨o, ho, hc⟩ ?_)
    rw [if_pos (by decide)]
    refine wpAny_bind (wpAny_seqItems (s := { s with heap := h1 }) ho hdat (wpAny_pure ?_))
    show wpAny _ A.in1 (holding [kv, p.2] (dictSet d kv p.2)) _ _ _
    refine wpAny_holding (wpAny_dictSet_pairs (s := { s with heap := h1 }) (knd := oKind prog w) (k := p.1) hk hD1 (fun h2 hD2 hs2 => ?_) (by have := hz; simp only [List.length_cons] at this; omega))
    have ne : ∀ o, h1.get? d = some o → o.cls ≠ .type "tuple" := fun o ho => by
      obtain ⟨o', _, _, h1, h2, _⟩ := hD1
      rw [h1] at ho; cases ho; rw [h2.1]; decide
    refine wpAny_pure ⟨plainId_quiet plain_dict_update_loop _, ?_⟩
    refine ih (i + 1) (j + 1) { s with heap := h2, toks := s.toks + 1 } (stored acc p.1 p.2) (tp2.keep fun b it t => tuple_keep hs2.extBut ne b it (k1 b it t)) (hI1.at fun o e => hs2.extBut I o (Ne.symm hd) e) (hL1.extBut hs2.extBut (Ne.symm hdl)) hD2
      (by have := stored_length_le acc p.1 p.2; simp only [List.length_cons] at hz; omega) fun h' tk hD' hk' => ?_
    exact hR h' tk hD' fun b o hb hb' e => hk' b o hb hb' (hs2.extBut b o hb' (hs1.extBut b o hb e))
end

theorem pairs_rel {h : Heap} {T : TT} : ∀ {vs : List V} {xs : List Value} {es : List (Int × V)}, pairsV vs = some es → VRs h T vs xs → ∃ ps, TP h xs ps ∧ DR h T es ps ∧ ps.length = vs.length
  | [], xs, es, e, r => by
    cases xs with
    | nil => cases e; exact ⟨[], trivial, trivial, rfl⟩
    | cons _ _ => exact r.elim
  | v :: vs, xs, es, e, r => by
    cases xs with
    | nil => exact r.elim
    | cons x xs =>
      unfold pairsV at e
      split at e
      · cases ‹_ :: _ = []›
      · rename_i k v' r' e'
        cases e'
        obtain ⟨es', h1, rfl⟩ := Option.map_eq_some_iff.mp e
        obtain ⟨ps, p1, p2, p3⟩ := pairs_rel h1 r.2
        obtain ⟨b, ys, rfl, _, hb, hy⟩ := r.1
        match ys, hy with
        | [y1, y2], hy =>
          obtain ⟨⟨t, rfl⟩, hv, _⟩ := hy
          exact ⟨(some k, y2) :: ps, ⟨⟨b, _, rfl, hb, by simp [isOI, Value.isInt]⟩, p1⟩, ⟨⟨rfl, hv⟩, p2⟩, by simp [p3]⟩
      · cases e
theorem merge_rel {h : Heap} {T : TT} : ∀ {more : List (Int × V)} {ps : List (Option Int × Value)} {es : List (Int × V)} {kvs : List (Option Int × Value)}, DR h T es kvs → DR h T more ps → DR h T (dmerge es more) (merged kvs ps)
  | [], [], _, _, r, _ => r
  | (k, v) :: more, (q, x) :: ps, es, kvs, r, r' => by
    obtain ⟨⟨h1, h2⟩, r'⟩ := r'
    dsimp only at h1 h2
    subst h1
    exact merge_rel (more := more) (ps := ps) (es := dset es k v) (kvs := stored kvs (some k) x) (stored_rel r h2) r'
  | [], _ :: _, _, _, _, r => r.elim
  | _ :: _, [], _, _, _, r => r.elim
theorem merged_len (kvs ps : List (Option Int × Value)) : (merged kvs ps).length ≤ kvs.length + ps.length := merged_length_le kvs ps

section
variable {g : Glb} {A : Around} {E : Value → Shared → Prop} {s : Shared} {T : TT} {st st' : St} {x y z v : V} {a b c : Value} {Q : Value → Shared → Prop} {n : Nat}

theorem dictOf_ok {vs : List V} {es : List (Int × V)} (r : Rm A n) (R : Rp g s.heap T st) (ha : VR s.heap T (.list vs) a) (he : pairsV vs = some es) (hz : vs.length ≤ 1000)
    (p : Pst g s T { st with dicts := st.dicts ++ [dmerge [] es] } (.dict st.dicts.length) Q) : wpAny g.M A (call (.type "dict") [a]) Q E s := by
  obtain ⟨l, xs, rfl, hTl, ⟨m, hl⟩, hr⟩ := ha
  obtain ⟨ps, tp, dr, hlen⟩ := pairs_rel he hr
  have hlt := Heap.lt_size hl
  have hh := r.handled
  refine callType_codes (Q₁ := fun obj s₁ => obj = .ref s.heap.objs.size ∧ s₁ = { s with heap := s.heap.push { cls := .type "dict", data := .dict #[] } }) PySem.F.kt_called_dict (PySem.F.kt_typeCall_dict_1 _) PySem.F.entry_dict_init (kt_code_dict_new _ ⟨rfl, rfl⟩) ?_
  rintro obj s₁ ⟨rfl, rfl⟩
  have hnew : (s.heap.push { cls := .type "dict", data := .dict #[] }).DictOf (oKind g.prog g.w) s.heap.objs.size [] := Heap.DictOf.new s.heap
  have k1 := push_keeps s.heap { cls := .type "dict", data := .dict #[] }
  have hl1 := k1 _ _ hl
  refine ⟨hnew.typeIs, PySem.F.args_dict_init_2 _ _, ?_⟩
  unfold Builtin.«dict.__init__»
  refine wpAny_bind ?_
  unfold Builtin.Dict.selfAndRest
  refine wpAny_bind (wpAny_notOrdered_dict hnew.typeIs ?_)
  show wpAny _ _ (pure (s.heap.objs.size, [Value.ref l])) _ _ _
  refine wpAny_pure ?_
  show wpAny _ _ (Builtin.Dict.updateFrom "dict.__init__" s.heap.objs.size (.ref l) [] .none) _ _ _
  unfold Builtin.Dict.updateFrom
  refine wpAny_bind (wpAny_typeOf (s := { s with heap := s.heap.push { cls := .type "dict", data := .dict #[] } }) (T := "list") ⟨_, hl1, rfl⟩ ?_)
  rw [if_pos (by decide)]
  refine wpAny_bind (keys_miss_list (s := { s with heap := s.heap.push { cls := .type "dict", data := .dict #[] } }) (A := A.in1.in1) hl1 hh fun h2 tk2 k2 => ?_)
  refine wpAny_ite_true (by rfl) ?_
  refine wpAny_bind (wpAny_rule ?_)
  have hl2 : h2.IsList l xs.toArray := ⟨_, k2 _ _ hl1, rfl, _, rfl⟩
  refine wpAny_bind (wpAny_pyIter_list (s := { s with heap := h2, toks := tk2 }) hl2 ?_)
  have hd2 : h2.DictOf (oKind g.prog g.w) s.heap.objs.size [] := hnew.keep k2
  have hds : s.heap.objs.size < h2.objs.size := let ⟨_, _, _, h, _⟩ := hd2; Heap.lt_size h
  have k3 := push_keeps h2 { cls := .type "list_iterator", data := .fields #[.ref l, .int 0 0] }
  have kk : ∀ b o, s.heap.get? b = some o → (h2.push { cls := .type "list_iterator", data := .fields #[.ref l, .int 0 0] }).get? b = some o := fun b o e => k3 _ _ (k2 _ _ (k1 _ _ e))
  refine wpAny_pure ⟨plainId_quiet plain_dict_update_loop _, ?_⟩
  refine update_loop (A := A.in1) (R := wants (fun r s₂ => r = Value.none ∧ Q (Value.ref s.heap.objs.size) s₂) E) hh (Nat.ne_of_lt (Nat.lt_trans hlt hds)) (Nat.ne_of_lt hds) (Nat.ne_of_gt hlt) xs ps 0 0 (s := { s with heap := h2.push { cls := .type "list_iterator", data := .fields #[.ref l, .int 0 0] }, toks := tk2 }) (acc := [])
    (by simpa using tp.keep fun b it t => let ⟨o, ho, r⟩ := t; ⟨o, kk _ _ ho, r⟩) ⟨_, Heap.get?_push_size _ rfl, rfl, rfl⟩ (let ⟨o, ho, r⟩ := hl2; ⟨o, k3 _ _ ho, r⟩) (hd2.keep k3) (by rw [sizeLine_eq]; simp only [List.length_nil]; omega) fun h' tk hD hk => ⟨rfl, ?_⟩
  have k' : ∀ b o, s.heap.get? b = some o → h'.get? b = some o := fun b o e => hk b o (Nat.ne_of_lt (Nat.lt_trans (Heap.lt_size e) hds)) (Nat.ne_of_lt (Heap.lt_size e)) (kk b o e)
  have hn : s.heap.get? s.heap.objs.size = none := by
    cases q : s.heap.get? s.heap.objs.size with
    | none => rfl
    | some o => exact absurd (Heap.lt_size q) (Nat.lt_irrefl _)
  exact p h' tk _ _ (.put (R.new (Nat.le_refl _)) hn k') (R.newDict (Nat.le_refl _) k' hD ((merge_rel (es := []) (kvs := []) trivial dr).evo fp0 (.grow (h := s.heap) (h' := s.heap) fun _ _ e => e))) ⟨_, rfl, TT.put_same _ _ _⟩

theorem list_ok {vs : List V} (R : Rp g s.heap T st) (ha : VR s.heap T (.list vs) a) (hz : vs.length ≤ 1000) (p : Pst g s T st (.list vs) Q) : wpAny g.M A (call (.type "list") [a]) Q E s := by
  obtain ⟨l, xs, rfl, hTl, ⟨m, hl⟩, hr⟩ := ha
  refine call_list_seq l (.inl rfl) hl rfl rfl (fun h' c' k hl' => ?_) (by rw [List.size_toArray, ← hr.length, sizeLine_eq]; omega)
  exact p.newList (tk := s.toks) R hr (Nat.le_refl _) k ⟨_, hl'⟩

/-- the value behind a builtin's name -/
def biV : BF → Value
  | .len => .builtin "len" | .sorted => .builtin "sorted" | .max => .builtin "max" | .min => .builtin "min" | .dict => .type "dict" | .list => .type "list" | .isbool => .builtin "isinstance"
def biMore : BF → List Value
  | .isbool => [.type "bool"]
  | _ => []
theorem biS_ok {f : BF} (hb : True) (r : Rm A n) (R : Rp g s.heap T st) (ha : VR s.heap T x a) (he : biS st f x = some (v, st')) (p : Pst g s T st' v Q) : wpAny g.M A (call (biV f) (a :: biMore f)) Q E s := by
  unfold biS at he
  split at he
  · rename_i xs
    split at he
    · rename_i hz
      cases he
      obtain ⟨l, ys, rfl, _, hl, hr⟩ := ha
      have hlen := hr.length
      exact Calls.call_len_list hl.isList (by rw [List.size_toArray]; omega) (p.now R ⟨_, by rw [List.size_toArray, hlen]⟩)
    · cases he
  · rename_i i
    obtain ⟨vs, h1, h2⟩ := Option.bind_eq_some_iff.mp he
    split at h2
    · rename_i hz
      cases h2
      obtain ⟨l, rfl, hl⟩ := ha
      obtain ⟨vs', ys, a1, a2, a3⟩ := R.ml l i hl
      rw [h1] at a1; cases a1
      have hlen := a3.length
      exact Calls.call_len_list a2.isList (by rw [List.size_toArray]; omega) (p.now R ⟨_, by rw [List.size_toArray, hlen]⟩)
    · cases h2
  · rename_i i
    obtain ⟨es, h1, h2⟩ := Option.bind_eq_some_iff.mp he
    split at h2
    · rename_i hz
      cases h2
      obtain ⟨d, rfl, hd⟩ := ha
      obtain ⟨es', kvs, a1, a2, a3⟩ := R.dict d i hd
      rw [h1] at a1; cases a1
      have hlen := a3.length
      exact call_len_dict (notMods hb R hd) a2 (by omega) (p.now R ⟨_, by rw [hlen]⟩)
    · cases h2
  · rename_i i
    obtain ⟨es, h1, h2⟩ := Option.bind_eq_some_iff.mp he
    split at h2
    · rename_i hz
      cases h2
      obtain ⟨d, rfl, hd⟩ := ha
      exact sorted_ok hb r R hd h1 hz p
    · cases h2
  · rename_i i
    obtain ⟨es, h1, h2⟩ := Option.bind_eq_some_iff.mp he
    split at h2
    · rename_i hz
      obtain ⟨m, h3, h4⟩ := Option.map_eq_some_iff.mp h2
      cases h4
      obtain ⟨d, rfl, hd⟩ := ha
      exact best_ok (u := true) hb r R hd h1 h3 p
    · cases h2
  · rename_i i
    obtain ⟨es, h1, h2⟩ := Option.bind_eq_some_iff.mp he
    split at h2
    · rename_i hz
      obtain ⟨m, h3, h4⟩ := Option.map_eq_some_iff.mp h2
      cases h4
      obtain ⟨d, rfl, hd⟩ := ha
      exact best_ok (u := false) hb r R hd h1 h3 p
    · cases h2
  · rename_i xs
    split at he
    · rename_i hz
      obtain ⟨es, h1, h2⟩ := Option.map_eq_some_iff.mp he
      cases h2
      exact dictOf_ok r R ha h1 hz p
    · cases he
  · rename_i xs
    split at he
    · rename_i hz
      cases he
      exact list_ok R ha hz p
    · cases he
  · cases he; cases ha; exact IsiPair.bool_bool (p.now (tk := s.toks) R rfl)
  · cases he; obtain ⟨t, rfl⟩ := ha; exact IsiPair.int_bool (p.now R rfl)
  · cases he; cases ha; exact IsiPair.NoneType_bool (p.now R rfl)
  · cases he; obtain ⟨l, ys, rfl, _, ⟨o, ho, hc, _⟩, _⟩ := ha; exact IsiPair.tuple_bool ho hc (p.now R rfl)
  · cases he
end
end Mux
namespace Mux
open PySem PySem.W

theorem ddel_rel {h : Heap} {T : TT} {k : Int} : ∀ {es : List (Int × V)} {kvs : List (Option Int × Value)}, DR h T es kvs → DR h T (ddel es k) (without kvs (some k))
  | [], [], _ => trivial
  | (k', v) :: es, (q, x) :: kvs, r => by
    obtain ⟨⟨hq, hr⟩, rest⟩ := r
    dsimp only at hq hr
    subst hq
    have ih := ddel_rel (k := k) rest
    unfold ddel without at ih ⊢
    by_cases e : k' = k
    · subst e; simpa using ih
    · have e' : ¬ some k' = some k := fun z => e (Option.some.inj z)
      simp only [List.filter_cons, ne_eq, e, e', not_false_eq_true, decide_true, if_true]
      exact ⟨⟨rfl, hr⟩, ih⟩
  | [], _ :: _, r => r.elim
  | _ :: _, [], r => r.elim
theorem without_none {kvs : List (Option Int × Value)} {k : Option Int} (h : valueAt kvs k = none) : without kvs k = kvs := by
  unfold valueAt at h
  unfold without
  rw [List.filter_eq_self]
  intro kv hm
  rw [Option.map_eq_none_iff, List.find?_eq_none] at h
  simpa using h kv hm
theorem intsV_some : ∀ {xs : List V} {ns : List Int}, intsV xs = some ns → xs = ns.map .int
  | [], ns, h => by cases h; rfl
  | x :: xs, ns, h => by
    unfold intsV at h
    split at h
    · cases ‹_ :: _ = []›
    · rename_i i r e
      cases e
      obtain ⟨ns', h1, rfl⟩ := Option.map_eq_some_iff.mp h
      rw [intsV_some h1]; rfl
    · cases h

def bmT : BM → String
  | .append => "list" | .index => "list" | _ => "dict"
def bmN : BM → Str
  | .pop => "pop" | .get => "get" | .clear => "clear" | .update => "update" | .append => "append" | .index => "index"
def bmId : BM → String
  | .pop => "dict.pop" | .get => "dict.get" | .clear => "dict.clear" | .update => "dict.update" | .append => "list.append" | .index => "list.index"
theorem bm_slot (m : BM) : PlainAttrs (bmT m) ∧ Slot (bmT m) (bmN m) (bmId m) ∧ typeOf (.builtin (bmId m)) = pure (.type "method_descriptor") := by
  cases m
  · exact ⟨PySem.F.plainAttrs_dict, PySem.F.slot_dict_pop, PySem.F.type_dict_pop⟩
  · exact ⟨PySem.F.plainAttrs_dict, PySem.F.slot_dict_get, PySem.F.type_dict_get⟩
  · exact ⟨PySem.F.plainAttrs_dict, PySem.F.slot_dict_clear, PySem.F.type_dict_clear⟩
  · exact ⟨PySem.F.plainAttrs_dict, PySem.F.slot_dict_update, PySem.F.type_dict_update⟩
  · exact ⟨PySem.F.plainAttrs_list, PySem.F.slot_list_append, PySem.F.type_list_append⟩
  · exact ⟨PySem.F.plainAttrs_list, PySem.F.slot_list_index, PySem.F.type_list_index⟩

section
variable {g : Glb} {A : Around} {E : Value → Shared → Prop} {s : Shared} {T : TT} {st st' st₁ : St} {x y z v : V} {a b c : Value} {Q : Value → Shared → Prop} {n : Nat}

theorem bm_recv {m : BM} {as : List V} (R : Rp g s.heap T st) (ha : VR s.heap T x a) (he : bmS st₁ m x as = some (v, st')) : s.TypeIs a (bmT m) ∧ ∀ d, a = .ref d → ∃ o, s.heap.get? d = some o ∧ o.dict = none := by
  have hdict : ∀ {i : Nat}, VR s.heap T (.dict i) a → s.TypeIs a "dict" ∧ ∀ d, a = .ref d → ∃ o, s.heap.get? d = some o ∧ o.dict = none := fun {i} ha => by
    obtain ⟨d, rfl, hd⟩ := ha
    obtain ⟨_, kvs, _, ⟨o, _, _, ho, hc, _⟩, _⟩ := R.dict d i hd
    exact ⟨⟨o, ho, hc.1⟩, fun d' e => by cases e; exact ⟨o, ho, hc.2.1⟩⟩
  unfold bmS at he
  split at he
  · exact hdict ha
  · exact hdict ha
  · exact hdict ha
  · exact hdict ha
  · exact hdict ha
  · exact hdict ha
  · rename_i i _
    obtain ⟨d, rfl, hd⟩ := ha
    obtain ⟨_, xs, _, ⟨k, hl⟩, _⟩ := R.ml d i hd
    exact ⟨⟨_, hl, rfl⟩, fun d' e => by cases e; exact ⟨_, hl, rfl⟩⟩
  · obtain ⟨d, ys, rfl, _, ⟨k, hl⟩, _⟩ := ha
    exact ⟨⟨_, hl, rfl⟩, fun d' e => by cases e; exact ⟨_, hl, rfl⟩⟩
  · cases he

theorem bmS_ok {m : BM} {as : List V} {xs : List Value} (hb : True) (r : Rm A n) (R : Rp g s.heap T st) (ha : VR s.heap T x a) (hs : VRs s.heap T as xs) (he : bmS st m x as = some (v, st')) (p : Pst g s T st' v Q) :
    wpAny g.M A (call (.builtin (bmId m)) (a :: xs)) Q E s := by
  unfold bmS at he
  split at he
  · rename_i i k
    obtain ⟨es, h1, h2⟩ := Option.bind_eq_some_iff.mp he
    split at h2
    · rename_i hz
      obtain ⟨v', h3, h4⟩ := Option.map_eq_some_iff.mp h2
      cases h4
      obtain ⟨d, rfl, hd⟩ := ha
      obtain ⟨es', kvs, a1, a2, a3⟩ := R.dict d i hd
      rw [h1] at a1; cases a1
      match xs, hs with
      | [y], hs =>
        obtain ⟨⟨t, rfl⟩, _⟩ := hs
        have ro := dget_rel k a3
        rw [h3] at ro
        obtain ⟨w, hw, rw'⟩ := ro.some
        have hlen := a3.length
        refine call_meetsIn (w := g.w) PySem.F.slot_dict_pop a2.typeIs PySem.F.entry_dict_pop (PySem.F.args_dict_pop_2 _ _) (meets_dict_pop_there (oKind g.prog g.w) (k := some k) d (by simp [oKind, isOI, Value.isInt]) [] (.inl rfl) rfl) ⟨kvs, w, a2, by rw [sizeLine_eq]; omega, hw, fun h' hd' hsb => ?_⟩
        have e := same_evo (F := F0) hsb hd rfl
        exact p h' _ T w e (R.setDict hd (List.getElem?_eq_some_iff.mp h1).1 hsb hd' (ddel_rel a3)) (VR.evo fp0 e _ rw')
    · cases h2
  · rename_i i k
    obtain ⟨es, h1, h2⟩ := Option.bind_eq_some_iff.mp he
    split at h2
    · rename_i hz
      cases h2
      obtain ⟨d, rfl, hd⟩ := ha
      obtain ⟨es', kvs, a1, a2, a3⟩ := R.dict d i hd
      rw [h1] at a1; cases a1
      match xs, hs with
      | [y, y'], hs =>
        obtain ⟨⟨t, rfl⟩, h5, _⟩ := hs
        cases h5
        have ro := dget_rel k a3
        have hlen := a3.length
        cases hv : dget es k with
        | some v' =>
          rw [hv] at ro
          obtain ⟨w, hw, rw'⟩ := ro.some
          refine call_meetsIn (w := g.w) PySem.F.slot_dict_pop a2.typeIs PySem.F.entry_dict_pop (PySem.F.args_dict_pop_3 _ _ _) (meets_dict_pop_there (oKind g.prog g.w) (k := some k) d (by simp [oKind, isOI, Value.isInt]) [.none] (.inr ⟨_, rfl⟩) rfl) ⟨kvs, w, a2, by rw [sizeLine_eq]; omega, hw, fun h' hd' hsb => ?_⟩
          have e := same_evo (F := F0) hsb hd rfl
          rw [hv] at p
          exact p h' _ T w e (R.setDict hd (List.getElem?_eq_some_iff.mp h1).1 hsb hd' (ddel_rel a3)) (VR.evo fp0 e _ rw')
        | none =>
          rw [hv] at ro p
          have hw : valueAt kvs (some k) = none := by
            cases q : valueAt kvs (some k) with
            | none => rfl
            | some _ => rw [q] at ro; exact ro.elim
          refine call_meetsIn (w := g.w) PySem.F.slot_dict_pop a2.typeIs PySem.F.entry_dict_pop (PySem.F.args_dict_pop_3 _ _ _) (meets_dict_pop_default (oKind g.prog g.w) (k := some k) d (by simp [oKind, isOI, Value.isInt]) (notMods hb R hd) rfl .none) ⟨kvs, a2, hw, ?_⟩
          have hsame : Heap.SameBut d s.heap s.heap := Heap.SameBut.refl _ _
          have hd' := ddel_rel (k := k) a3
          rw [without_none hw] at hd'
          exact p s.heap _ T _ .refl (R.setDict hd (List.getElem?_eq_some_iff.mp h1).1 hsame a2 hd') rfl
    · cases h2
  · rename_i i k
    obtain ⟨es, h1, h2⟩ := Option.bind_eq_some_iff.mp he
    obtain ⟨r', h3, h4⟩ := Option.map_eq_some_iff.mp h2
    cases h4
    obtain ⟨d, rfl, hd⟩ := ha
    obtain ⟨es', kvs, a1, a2, a3⟩ := R.dict d i hd
    rw [h1] at a1; cases a1
    match xs, hs with
    | [y], hs =>
      obtain ⟨key, hk, hv⟩ := dkey_ok g.prog g.w hs.1 h3 a3
      exact call_meetsIn (w := g.w) PySem.F.slot_dict_get a2.typeIs PySem.F.entry_dict_get (PySem.F.args_dict_get_2 _ _) (meets_dict_get (oKind g.prog g.w) d hk (notMods hb R hd)) ⟨_, a2.mapOf, p.now R (hv.getD rfl)⟩
  · rename_i i k dv
    obtain ⟨es, h1, h2⟩ := Option.bind_eq_some_iff.mp he
    obtain ⟨r', h3, h4⟩ := Option.map_eq_some_iff.mp h2
    cases h4
    obtain ⟨d, rfl, hd⟩ := ha
    obtain ⟨es', kvs, a1, a2, a3⟩ := R.dict d i hd
    rw [h1] at a1; cases a1
    match xs, hs with
    | [y, y'], hs =>
      obtain ⟨key, hk, hv⟩ := dkey_ok g.prog g.w hs.1 h3 a3
      exact call_meetsIn (w := g.w) PySem.F.slot_dict_get a2.typeIs PySem.F.entry_dict_get (PySem.F.args_dict_get_3 _ _ _) (meets_dict_get_default (oKind g.prog g.w) d hk (notMods hb R hd) y') ⟨_, a2.mapOf, p.now R (hv.getD hs.2.1)⟩
  · rename_i i
    obtain ⟨es, h1, h2⟩ := Option.bind_eq_some_iff.mp he
    split at h2
    · cases h2
      obtain ⟨d, rfl, hd⟩ := ha
      obtain ⟨es', kvs, a1, a2, a3⟩ := R.dict d i hd
      rw [h1] at a1; cases a1
      have hlen := a3.length
      match xs, hs with
      | [], _ =>
        refine call_meetsIn (w := g.w) PySem.F.slot_dict_clear a2.typeIs PySem.F.entry_dict_clear (PySem.F.args_dict_clear_1 _) (meets_dict_clear (oKind g.prog g.w) d) ⟨kvs, a2, by rw [sizeLine_eq]; omega, fun h' hd' hsb => ?_⟩
        exact p h' _ T _ (same_evo hsb hd rfl) (R.setDict (es := []) hd (List.getElem?_eq_some_iff.mp h1).1 hsb hd' trivial) rfl
    · cases h2
  · rename_i i j
    split at he
    · cases he
    · rename_i hij
      obtain ⟨es, h1, h2⟩ := Option.bind_eq_some_iff.mp he
      obtain ⟨more, h3, h4⟩ := Option.bind_eq_some_iff.mp h2
      split at h4
      · cases h4
        obtain ⟨d, rfl, hd⟩ := ha
        obtain ⟨es', kvs, a1, a2, a3⟩ := R.dict d i hd
        rw [h1] at a1; cases a1
        match xs, hs with
        | [y], hs =>
          obtain ⟨⟨o, rfl, ho⟩, _⟩ := hs
          obtain ⟨more', kvs', b1, b2, b3⟩ := R.dict o j ho
          rw [h3] at b1; cases b1
          have hlen := a3.length
          have hlen' := b3.length
          have hdo : d ≠ o := fun e => by subst e; rw [hd] at ho; cases ho; exact hij rfl
          refine call_meetsIn (w := g.w) PySem.F.slot_dict_update a2.typeIs PySem.F.entry_dict_update (PySem.F.args_dict_update_2 _ _) (meets_dict_update (oKind g.prog g.w) d o hdo (notMods hb R ho)) ⟨kvs, kvs', a2, b2, by rw [sizeLine_eq]; omega, fun h' hd' _ hsb => ?_⟩
          exact p h' s.toks T _ (same_evo hsb hd rfl) (R.setDict hd (List.getElem?_eq_some_iff.mp h1).1 hsb hd' (merge_rel a3 b3)) rfl
      · cases h4
  · rename_i i y
    obtain ⟨vs, h1, h2⟩ := Option.bind_eq_some_iff.mp he
    split at h2
    · cases h2
      obtain ⟨d, rfl, hd⟩ := ha
      obtain ⟨vs', ys, a1, a2, a3⟩ := R.ml d i hd
      rw [h1] at a1; cases a1
      have hlen := a3.length
      match xs, hs with
      | [z], hs =>
        refine wpAny_list_append_plain a2 (fun h' hl' hsb => ?_) (by rw [List.size_toArray, sizeLine_eq]; omega)
        refine p h' s.toks T _ (same_evo hsb hd rfl) (R.setMl (xs := ys ++ [z]) hd (List.getElem?_eq_some_iff.mp h1).1 hsb ?_ (a3.append hs)) rfl
        simpa using hl'
    · cases h2
  · rename_i vs k
    split at he
    · obtain ⟨j, h1, h2⟩ := Option.map_eq_some_iff.mp he
      cases h2
      unfold idxI at h1
      obtain ⟨ns, h3, h4⟩ := Option.bind_eq_some_iff.mp h1
      split at h4
      · rename_i hz hm
        cases h4
        obtain rfl := intsV_some h3
        obtain ⟨l, ys, rfl, _, ⟨e, hl⟩, hr⟩ := ha
        have hi := ints_to hr
        have hlen := hi.length
        have hk : k ∈ ns := by simpa using hm
        have hj : ns.idxOf k < ns.length := List.idxOf_lt_length_iff.mpr hk
        have hz' : ns.length ≤ 1000 := by simpa using hz
        match xs, hs with
        | [y], hs =>
          obtain ⟨⟨t, rfl⟩, _⟩ := hs
          refine call_meets PySem.F.slot_list_index ⟨_, hl, rfl⟩ PySem.F.entry_list_index (PySem.F.args_list_index_2 _ _)
            (PySem.SeqAt.list_indexAt l ys.toArray e none #[] (.int k t) (PyProof.Rows.isInt k) (ns.idxOf k) (by simpa [hlen] using hj) (by omega) ?_ ?_) ⟨hl, fun y hy => (PyProof.Rows.eq_isInt k t hi y (by simpa using hy)).at _ _, p.now R ⟨_, rfl⟩⟩
          · show PyProof.Rows.isInt k ys[ns.idxOf k] = true
            rw [PyProof.Rows.isInt_at k hi _ (by omega) hj]
            simpa using List.getElem_idxOf hj
          · intro j hjs hlt
            show PyProof.Rows.isInt k ys[j] = false
            rw [PyProof.Rows.isInt_at k hi j (by simpa using hjs) (by omega)]
            exact PyProof.Rows.ne_of_lt_idxOf hlt _
      · cases h4
    · cases he
  · cases he
end
end Mux
namespace Mux
open PySem PySem.W

/-! codes of names -/
theorem findK_spec {k : Nat} : ∀ {l : List Str} {i j : Nat} {x : Str}, findK k l i = some (j, x) → i ≤ j ∧ l[j - i]? = some x
  | [], i, j, x, h => by simp [findK] at h
  | y :: r, i, j, x, h => by
    unfold findK at h
    split at h
    · cases h; exact ⟨Nat.le_refl _, by simp⟩
    · obtain ⟨h1, h2⟩ := findK_spec h
      refine ⟨by omega, ?_⟩
      rw [show j - i = (j - (i + 1)) + 1 by omega]; simpa using h2
theorem codeIn_spec {l : List Str} {s : Str} {k : Nat} (h : codeIn l s = some k) : k < l.length ∧ ofCode l k = s := by
  unfold codeIn at h
  split at h
  · rename_i i x e
    split at h
    · rename_i hx
      cases h
      obtain ⟨_, h2⟩ := findK_spec e
      rw [Nat.sub_zero] at h2
      obtain ⟨hlt, hg⟩ := List.getElem?_eq_some_iff.mp h2
      exact ⟨hlt, by unfold ofCode; rw [List.getD_eq_getElem?_getD, h2, Option.getD_some, hx]⟩
    · cases h
  · cases h
theorem code_spec {s : Str} {k : Nat} (h : code s = some k) : k < nm.length ∧ ofCode nm k = s := codeIn_spec h
theorem nm_debug : nm.all (fun x => !(x == ("__debug__" : Str))) = true := by decide +kernel
theorem nm_mem {k : Nat} (h : k < nm.length) : ofCode nm k ∈ nm := by
  unfold ofCode; rw [List.getD_eq_getElem?_getD, List.getElem?_eq_getElem h, Option.getD_some]; exact List.getElem_mem h
theorem not_debug {k : Nat} (h : k < nm.length) : (ofCode nm k == ("__debug__" : Str)) = false := by
  have := List.all_eq_true.mp nm_debug _ (nm_mem h)
  simpa using this

theorem lget_cons {α : Type} (j k : Nat) (v : α) (r : List (Nat × α)) : lget j ((k, v) :: r) = if k = j then some v else lget j r := by
  show (if (k == j) = true then _ else _) = _
  simp only [beq_iff_eq]
theorem upd_cons {α : Type} (j k : Nat) (v w : α) (r : List (Nat × α)) : upd j w ((k, v) :: r) = if k = j then (j, w) :: r else (k, v) :: upd j w r := by
  show (if (k == j) = true then _ else _) = _
  simp only [beq_iff_eq]
theorem lget_upd {α : Type} (k j : Nat) (v : α) (l : List (Nat × α)) : lget j (upd k v l) = if j = k then some v else lget j l := by
  induction l with
  | nil =>
    show lget j [(k, v)] = _
    rw [lget_cons]
    by_cases h : j = k
    · rw [if_pos h, if_pos h.symm]
    · rw [if_neg h, if_neg (fun q => h q.symm)]
  | cons p r ih =>
    obtain ⟨k', v'⟩ := p
    rw [upd_cons]
    by_cases h : k' = k
    · rw [if_pos h, lget_cons, lget_cons]
      by_cases h' : j = k
      · rw [if_pos h', if_pos h'.symm]
      · rw [if_neg h', if_neg (fun q => h' q.symm), if_neg (fun q => h' (q.symm.trans h))]
    · rw [if_neg h, lget_cons, lget_cons, ih]
      by_cases h' : k' = j
      · rw [if_pos h', if_pos h', if_neg (fun q => h (h'.trans q))]
      · rw [if_neg h', if_neg h']
theorem lget_lrm {α : Type} (ks : List Nat) (j : Nat) (l : List (Nat × α)) : lget j (lrm ks l) = if ks.contains j then none else lget j l := by
  induction l with
  | nil => show lget j [] = _; show none = _; split <;> rfl
  | cons p r ih =>
    obtain ⟨k', v'⟩ := p
    have e : lrm ks ((k', v') :: r) = if ks.contains k' then lrm ks r else (k', v') :: lrm ks r := by
      unfold lrm
      rw [List.filter_cons]
      by_cases h : ks.contains k' = true
      · rw [if_pos h, if_neg (by rw [h]; decide)]
      · rw [if_neg h, if_pos (by simpa using h)]
    rw [e, lget_cons]
    by_cases h : ks.contains k' = true
    · rw [if_pos h, ih]
      by_cases q : k' = j
      · rw [← q, if_pos h, if_pos h]
      · rw [if_neg q]
    · rw [if_neg h, lget_cons, ih]
      by_cases q : k' = j
      · rw [if_pos q, if_pos q, ← q, if_neg h]
      · rw [if_neg q, if_neg q]

/-- a frame: the function's own names -/
structure FrOk (env : Env) (ks : Ks) (h : Heap) (T : TT) (l : Loc) : Prop where
  kind : env.scope.kind = .function
  names : env.scope.names = ks
  glob : env.globals = mainGlobals
  blt : env.builtins = builtinsNs
  priv : T env.locals = some .priv
  ns : ∃ m, h.Ns env.locals m ∧ ∀ x v, lget x l = some v → ks.lookup (ofCode nm x) = some .local → ∃ y, m (ofCode nm x) = some y ∧ VR h T v y
  cell : ∀ x, ks.lookup x = some .cell → ∃ c, env.cells.lookup x = some c ∧ T c = some .priv ∧ c ≠ env.locals ∧ ∃ u, h.IsCell c u ∧ ∀ k v, x = ofCode nm k → k < nm.length → lget k l = some v → ∃ y, u = some y ∧ VR h T v y
  apart : ∀ x y c, ks.lookup x = some .cell → ks.lookup y = some .cell → env.cells.lookup x = some c → env.cells.lookup y = some c → x = y

def Away (F : Addr → Prop) (env : Env) (ks : Ks) : Prop := ¬ F env.locals ∧ ∀ x c, ks.lookup x = some .cell → env.cells.lookup x = some c → ¬ F c
theorem away0 {env : Env} {ks : Ks} : Away F0 env ks := ⟨id, fun _ _ _ _ => id⟩

theorem Evo.priv {F : Addr → Prop} {h h' : Heap} {T T' : TT} (e : Evo F h T h' T') {a : Addr} {o : Obj} (hT : T a = some .priv) (hF : ¬ F a) (ho : h.get? a = some o) : h'.get? a = some o :=
  e.keep a o ho (fun r hr => by rw [hT] at hr; cases hr; rfl) hF

theorem FrOk.evo {env : Env} {ks : Ks} {h h' : Heap} {T T' : TT} {l : Loc} {F : Addr → Prop} (X : FrOk env ks h T l) (p : FP F T) (e : Evo F h T h' T') (aw : Away F env ks) : FrOk env ks h' T' l where
  kind := X.kind
  names := X.names
  glob := X.glob
  blt := X.blt
  priv := e.role _ _ X.priv
  ns := by
    obtain ⟨m, hn, hv⟩ := X.ns
    refine ⟨m, hn.at' fun o ho => e.priv X.priv aw.1 ho, fun x v h1 h2 => ?_⟩
    obtain ⟨y, h3, h4⟩ := hv x v h1 h2
    exact ⟨y, h3, h4.evo p e⟩
  cell := fun x hx => by
    obtain ⟨c, h1, h2, h3, u, h4, h5⟩ := X.cell x hx
    refine ⟨c, h1, e.role _ _ h2, h3, u, ?_, fun k v a b d => ?_⟩
    · obtain ⟨o, ho, hd⟩ := h4; exact ⟨o, e.priv h2 (aw.2 x c hx h1) ho, hd⟩
    · obtain ⟨y, h6, h7⟩ := h5 k v a b d; exact ⟨y, h6, h7.evo p e⟩
  apart := X.apart
theorem FrOk.congr {env : Env} {ks : Ks} {h : Heap} {T : TT} {l l' : Loc} (X : FrOk env ks h T l) (e : ∀ k, lget k l' = lget k l) : FrOk env ks h T l' where
  kind := X.kind
  names := X.names
  glob := X.glob
  blt := X.blt
  priv := X.priv
  ns := by obtain ⟨m, hn, hv⟩ := X.ns; exact ⟨m, hn, fun x v h1 h2 => hv x v (by rw [← e]; exact h1) h2⟩
  cell := fun x hx => by
    obtain ⟨c, h1, h2, h3, u, h4, h5⟩ := X.cell x hx
    exact ⟨c, h1, h2, h3, u, h4, fun k v a b d => h5 k v a b (by rw [← e]; exact d)⟩
  apart := X.apart

section
variable {g : Glb} {A : Around} {E : Value → Shared → Prop} {s : Shared} {T : TT} {st st' : St} {v : V} {y : Value} {env : Env} {ks : Ks} {l : Loc}

theorem isLoc_cases {x : Str} (h : isLoc ks x = true) : ks.lookup x = some .local ∨ ks.lookup x = some .cell := by
  unfold isLoc at h
  split at h
  · left; assumption
  · right; assumption
  · cases h
theorem cVar_spec {x : Str} {k : Nat} (h : cVar ks x = some k) : isLoc ks x = true ∧ k < nm.length ∧ ofCode nm k = x := by
  unfold cVar at h
  split at h
  · rename_i q; exact ⟨q, code_spec h⟩
  · cases h

theorem kindOf_of (X : FrOk env ks s.heap T l) (x : Str) : env.kindOf x = ks.lookup x := by unfold Env.kindOf; rw [X.names]

theorem load_ok {x : Str} {pos : Pos} {k : Nat} {Q : Value → Shared → Prop} (X : FrOk env ks s.heap T l) (R : Rp g s.heap T st) (hc : cVar ks x = some k) (hv : lget k l = some v) (p : Pst g s T st v Q) : wpAny g.M A (eval (.Name x pos) env) Q E s := by
  obtain ⟨h1, h2, rfl⟩ := cVar_spec hc
  refine wpAny_Name ?_ (not_debug h2)
  rcases isLoc_cases h1 with q | q
  · obtain ⟨m, hn, hm⟩ := X.ns
    obtain ⟨y, h3, h4⟩ := hm k v hv q
    exact wpAny_loadName_local X.kind ((kindOf_of X _).trans q) hn h3 (p.now (tk := s.toks) R h4)
  · obtain ⟨c, h3, h4, h5, u, h6, h7⟩ := X.cell _ q
    obtain ⟨y, rfl, h8⟩ := h7 k v rfl h2 hv
    exact wpAny_loadName_cell X.kind ((kindOf_of X _).trans q) h3 h6 (p.now (tk := s.toks) R h8)

/-- a store into a name of the frame -/
theorem store_ok {F : Addr → Prop} {k : Nat} {Q : Unit → Shared → Prop} (X : FrOk env ks s.heap T l) (R : Rp g s.heap T st) (hl : isLoc ks (ofCode nm k) = true) (hk : k < nm.length) (hv : VR s.heap T v y) (fp : FP F T)
    (hF : F env.locals) (hC : ∀ c, ks.lookup (ofCode nm k) = some .cell → env.cells.lookup (ofCode nm k) = some c → F c) (hlive : ∀ b, F b → ∃ o, s.heap.get? b = some o)
    (h : ∀ h' tk, Evo F s.heap T h' T → Rp g h' T st → FrOk env ks h' T (upd k v l) → Q () { s with heap := h', toks := tk }) : wpAny g.M A (bindName env (ofCode nm k) y) Q E s := by
  refine wpAny_bindName ?_
  rcases isLoc_cases hl with q | q
  · obtain ⟨m, hn, hm⟩ := X.ns
    refine wpAny_storeName_local ((kindOf_of X _).trans q) hn (fun h' hn' hs' => ?_) (by rw [X.kind]; rfl)
    obtain ⟨R', e⟩ := R.setPriv (F := F) fp (fun b o nf e => (hs'.2 b fun z => nf (z ▸ hF)).trans e) (fun b hb => by
      by_cases z : b = env.locals
      · subst z; obtain ⟨o, _, _, ho, _⟩ := hn'; exact ⟨o, ho⟩
      · obtain ⟨o, ho⟩ := hlive b hb; exact ⟨o, (hs'.2 b z).trans ho⟩)
    refine h h' _ e R' ⟨X.kind, X.names, X.glob, X.blt, X.priv, ⟨_, hn', fun x w h1 h2 => ?_⟩, fun x hx => ?_, X.apart⟩
    · rw [lget_upd] at h1
      by_cases z : x = k
      · subst z; rw [if_pos rfl] at h1; cases h1; exact ⟨y, by simp, hv.evo fp e⟩
      · rw [if_neg z] at h1
        obtain ⟨w', h3, h4⟩ := hm x w h1 h2
        by_cases z' : ofCode nm x = ofCode nm k
        · by_cases zl : x < nm.length
          · exact absurd (ofCode_inj zl hk z') z
          · have : ofCode nm x = Str.empty := by unfold ofCode; rw [List.getD_eq_getElem?_getD, List.getElem?_eq_none (by omega), Option.getD_none]
            rw [this] at z'
            exact absurd (nm_mem hk) (by rw [← z']; decide +kernel)
        · exact ⟨w', by simp only [if_neg z']; exact h3, h4.evo fp e⟩
    · obtain ⟨c, h1, h2, h3, u, h4, h5⟩ := X.cell x hx
      refine ⟨c, h1, h2, h3, u, ?_, fun j w a b d => ?_⟩
      · obtain ⟨o, ho, hd⟩ := h4; exact ⟨o, (hs'.2 c h3).trans ho, hd⟩
      · subst a
        rw [lget_upd] at d
        by_cases z : j = k
        · subst z; rw [q] at hx; cases hx
        · rw [if_neg z] at d
          obtain ⟨w', h6, h7⟩ := h5 j w rfl b d; exact ⟨w', h6, h7.evo fp e⟩
  · obtain ⟨c, h1, h2, h3, u, h4, h5⟩ := X.cell _ q
    refine wpAny_storeName_cell X.kind ((kindOf_of X _).trans q) h1 h4 fun h' hc' hs' => ?_
    have hFc := hC c q h1
    obtain ⟨R', e⟩ := R.setPriv (F := F) fp (fun b o nf e => (hs'.2 b fun z => nf (z ▸ hFc)).trans e) (fun b hb => by
      by_cases z : b = c
      · subst z; obtain ⟨o, ho, _⟩ := hc'; exact ⟨o, ho⟩
      · obtain ⟨o, ho⟩ := hlive b hb; exact ⟨o, (hs'.2 b z).trans ho⟩)
    obtain ⟨m, hn, hm⟩ := X.ns
    refine h h' s.toks e R' ⟨X.kind, X.names, X.glob, X.blt, X.priv, ⟨m, hn.sameBut hs' (Ne.symm h3), fun x w h6 h7 => ?_⟩, fun x hx => ?_, X.apart⟩
    · rw [lget_upd] at h6
      by_cases z : x = k
      · subst z; rw [q] at h7; cases h7
      · rw [if_neg z] at h6
        obtain ⟨w', h8, h9⟩ := hm x w h6 h7; exact ⟨w', h8, h9.evo fp e⟩
    · obtain ⟨c', k1, k2, k3, u', k4, k5⟩ := X.cell x hx
      by_cases zc : c' = c
      · subst zc
        have hxk : x = ofCode nm k := X.apart _ _ _ hx q k1 h1
        refine ⟨c', k1, k2, k3, some y, hc', fun j w a b d => ?_⟩
        have : j = k := ofCode_inj b hk (a.symm.trans hxk)
        subst this
        rw [lget_upd, if_pos rfl] at d; cases d
        exact ⟨y, rfl, hv.evo fp e⟩
      · refine ⟨c', k1, k2, k3, u', k4.sameBut hs' zc, fun j w a b d => ?_⟩
        rw [lget_upd] at d
        by_cases z : j = k
        · subst z; subst a; rw [h1] at k1; cases k1; exact absurd rfl zc
        · rw [if_neg z] at d
          obtain ⟨w', k6, k7⟩ := k5 j w a b d; exact ⟨w', k6, k7.evo fp e⟩
end

theorem Pst.after {g : Glb} {s : Shared} {T T₁ : TT} {st' : St} {v : V} {Q : Value → Shared → Prop} {h : Heap} {tk : Nat} (p : Pst g s T st' v Q) (e : Evo F0 s.heap T h T₁) : Pst g { s with heap := h, toks := tk } T₁ st' v Q :=
  fun h' tk' T' x e' R r => p h' tk' T' x (e.trans fp0 e') R r
theorem PstU.after {g : Glb} {s : Shared} {T T₁ : TT} {st' : St} {Q : Unit → Shared → Prop} {h : Heap} {tk : Nat} (p : PstU g s T st' Q) (e : Evo F0 s.heap T h T₁) : PstU g { s with heap := h, toks := tk } T₁ st' Q :=
  fun h' tk' T' e' R => p h' tk' T' (e.trans fp0 e') R
/-- what is behind a step of any kind -/
def PstG {α : Type} (g : Glb) (s : Shared) (T : TT) (st' : St) (rel : Heap → TT → α → Prop) (Q : α → Shared → Prop) : Prop :=
  ∀ h' tk T' x, Evo F0 s.heap T h' T' → Rp g h' T' st' → rel h' T' x → Q x { s with heap := h', toks := tk }
end Mux
namespace Mux
open PySem PySem.W

def bltV : Str → Option Value := fun x =>
  if x = ("len" : Str) then some (.builtin "len") else if x = ("sorted" : Str) then some (.builtin "sorted") else if x = ("max" : Str) then some (.builtin "max") else if x = ("min" : Str) then some (.builtin "min")
  else if x = ("dict" : Str) then some (.type "dict") else if x = ("list" : Str) then some (.type "list") else if x = ("isinstance" : Str) then some (.builtin "isinstance") else if x = ("bool" : Str) then some (.type "bool")
  else if x = ("range" : Str) then some (.type "range") else if x = ("enumerate" : Str) then some (.type "enumerate") else none

def dfltIn (K : Frag) (v : Value) : Option (Option (Array Value)) := match v with
  | .ref t => (match K.lookup t with
      | some ⟨_, _, .seq items _, _⟩ => some (some items)
      | _ => none)
  | .none => some none
  | _ => none
/-- a function of the text, as it lies in the written part -/
structure FnAt (g : Glb) (K : Frag) (a : Addr) (f : Fn) : Prop where
  obj : ∃ oc od fd sl body, K.lookup a = some ⟨oc, od, .func fd, sl⟩ ∧ fd.body = .stmts body ∧ fd.globals = mainGlobals ∧ fd.builtins = builtinsNs ∧ fd.closure = [] ∧ PySem.W.codeIn K fd.code fd.qualname = true ∧ cFn fd.params body fd.scope = some f ∧
    ∃ D, dfltIn K fd.defaults = some D ∧ (f.defs = 0 ∨ (D = some (Array.replicate f.defs Value.none) ∧ f.defs ≤ f.params.length))
  nodup : f.params.Nodup
structure GOk (g : Glb) (K : Frag) (fa : Nat → Addr) : Prop where
  X : K.In g.h₀
  C : ∀ c < 4, ClsOk g K fa c
  hb : True
  nolimit : g.h₀.NoLimit
  gfn : ∀ x i, codeIn fnm x = some i → nsIn K mainGlobals x = some (some (.ref (fa i)))
  gcl : ∀ x c, codeIn cnm x = some c → nsIn K mainGlobals x = some (some (.ref (g.ca c)))
  gbl : ∃ mb, g.h₀.Ns builtinsNs mb ∧ ∀ x v, bltV x = some v → nsIn K mainGlobals x = some none ∧ mb x = some v
  fn : ∀ i f, g.P.fn i = some f → FnAt g K (fa i) f

def PstB (g : Glb) (s : Shared) (T : TT) (st' : St) (b : Bool) (Q : Bool → Shared → Prop) : Prop :=
  ∀ h' tk T', Evo F0 s.heap T h' T' → Rp g h' T' st' → Q b { s with heap := h', toks := tk }
def PstL (g : Glb) (s : Shared) (T : TT) (st' : St) (vs : List V) (Q : List Value → Shared → Prop) : Prop :=
  ∀ h' tk T' xs, Evo F0 s.heap T h' T' → Rp g h' T' st' → VRs h' T' vs xs → Q xs { s with heap := h', toks := tk }
def Fenv (env : Env) (ks : Ks) : Addr → Prop := fun a => a = env.locals ∨ ∃ x, ks.lookup x = some .cell ∧ env.cells.lookup x = some a
theorem FrOk.fp {env : Env} {ks : Ks} {h : Heap} {T : TT} {l : Loc} (X : FrOk env ks h T l) : FP (Fenv env ks) T := by
  rintro a (rfl | ⟨x, h1, h2⟩)
  · exact X.priv
  · obtain ⟨c, h3, h4, _⟩ := X.cell x h1
    rw [h2] at h3; cases h3; exact h4
def FlR (h : Heap) (T : TT) : Fl → Flow → Prop
  | .next, f => f = .next
  | .ret v, f => ∃ x, f = .ret x ∧ VR h T v x
def PstS (g : Glb) (s : Shared) (T : TT) (env : Env) (ks : Ks) (fl : Fl) (l' : Loc) (st' : St) (Q : Flow → Shared → Prop) : Prop :=
  ∀ h' tk T' f, Evo (Fenv env ks) s.heap T h' T' → Rp g h' T' st' → FrOk env ks h' T' l' → FlR h' T' fl f → Q f { s with heap := h', toks := tk }

structure Snd (g : Glb) (n : Nat) (r : Rec) : Prop where
  E : ∀ {m : Nat} {ks : Ks} {e : Expr} {p : PE} {env : Env} {l : Loc} {st st' : St} {v : V} {s : Shared} {T : TT} {A : Around} {E : Value → Shared → Prop} {Q : Value → Shared → Prop},
    cE m ks e = some p → FrOk env ks s.heap T l → Rm A n → Rp g s.heap T st → r.E p l st = some (v, st') → Pst g s T st' v Q → wpAny g.M A (eval e env) Q E s
  B : ∀ {m : Nat} {ks : Ks} {e : Expr} {p : PE} {env : Env} {l : Loc} {st st' : St} {b : Bool} {s : Shared} {T : TT} {A : Around} {E : Value → Shared → Prop} {Q : Bool → Shared → Prop},
    cE m ks e = some p → FrOk env ks s.heap T l → Rm A n → Rp g s.heap T st → r.B p l st = some (b, st') → PstB g s T st' b Q → wpAny g.M A (isTrue e env (eval e env)) Q E s
  S : ∀ {m k : Nat} {ks : Ks} {x : Stmt} {p : PS} {env : Env} {l l' : Loc} {st st' : St} {fl : Fl} {s : Shared} {T : TT} {A : Around} {E : Value → Shared → Prop} {Q : Flow → Shared → Prop},
    cS m k ks x = some p → FrOk env ks s.heap T l → Rm A n → Rp g s.heap T st → r.S p l st = some (fl, l', st') → PstS g s T env ks fl l' st' Q → wpAny g.M A (exec x env) Q E s

theorem FrOk.pass {env : Env} {ks : Ks} {h h' : Heap} {T T' : TT} {l : Loc} (X : FrOk env ks h T l) (e : Evo F0 h T h' T') : FrOk env ks h' T' l := X.evo fp0 e away0
theorem VRs.pass {h h' : Heap} {T T' : TT} {vs : List V} {xs : List Value} (r : VRs h T vs xs) (e : Evo F0 h T h' T') : VRs h' T' vs xs := VRs.evo fp0 e vs r
theorem VR.pass {h h' : Heap} {T T' : TT} {v : V} {x : Value} (r : VR h T v x) (e : Evo F0 h T h' T') : VR h' T' v x := VR.evo fp0 e v r
theorem PstB.after {g : Glb} {s : Shared} {T T₁ : TT} {st' : St} {b : Bool} {Q : Bool → Shared → Prop} {h : Heap} {tk : Nat} (p : PstB g s T st' b Q) (e : Evo F0 s.heap T h T₁) : PstB g { s with heap := h, toks := tk } T₁ st' b Q :=
  fun h' tk' T' e' R => p h' tk' T' (e.trans fp0 e') R
theorem PstL.after {g : Glb} {s : Shared} {T T₁ : TT} {st' : St} {vs : List V} {Q : List Value → Shared → Prop} {h : Heap} {tk : Nat} (p : PstL g s T st' vs Q) (e : Evo F0 s.heap T h T₁) : PstL g { s with heap := h, toks := tk } T₁ st' vs Q :=
  fun h' tk' T' xs e' R r => p h' tk' T' xs (e.trans fp0 e') R r

/-- what a step gives that only reads -/
def Post (s : Shared) (T : TT) (g : Glb) (st' : St) (v : V) : Value → Shared → Prop := fun x s' => ∃ h' tk T', s' = { s with heap := h', toks := tk } ∧ Evo F0 s.heap T h' T' ∧ Rp g h' T' st' ∧ VR h' T' v x
theorem Post.at {s : Shared} {T : TT} {g : Glb} {st' : St} {v : V} : Pst g s T st' v (Post s T g st' v) := fun h' tk T' x e R r => ⟨h', tk, T', rfl, e, R, r⟩

theorem starEach_cons {env : Env} {e : Expr} {rest : List Expr} (h : isStar e = false) : starEach (e :: rest) env = (false, eval e env) :: starEach rest env := by
  cases e <;> first | rfl | cases h
theorem starEach_plain {env : Env} : ∀ {es : List Expr}, es.any isStar = false → (starEach es env).any (·.1) = false
  | [], _ => rfl
  | e :: r, h => by
    simp only [List.any_cons, Bool.or_eq_false_iff] at h
    rw [starEach_cons h.1, List.any_cons, starEach_plain h.2]; rfl
theorem backTo_plain {pos : Pos} {l : List (Bool × Sem Value)} (h : l.any (·.1) = false) : (backTo pos l).any (·.1) = false := by
  unfold backTo
  rw [List.any_map]
  simpa using h
theorem mapO_cons {α β : Type} {f : α → Option β} {x : α} {r : List α} {ys : List β} (h : mapO f (x :: r) = some ys) : ∃ y ys', f x = some y ∧ mapO f r = some ys' ∧ ys = y :: ys' := by
  unfold mapO at h
  split at h
  · split at h
    · cases h; exact ⟨_, _, by assumption, by assumption, rfl⟩
    · cases h
  · cases h
theorem mapO_nil {α β : Type} {f : α → Option β} {ys : List β} (h : mapO f [] = some ys) : ys = [] := by cases h; rfl

section
variable {g : Glb} {K : Frag} {fa : Nat → Addr} {A : Around} {E : Value → Shared → Prop} {s : Shared} {T : TT} {st st' : St} {v : V} {env : Env} {ks : Ks} {l : Loc} {n m : Nat} {r : Rec} {Q : Value → Shared → Prop}

theorem evL_ok (S : Snd g n r) (hA : Rm A n) {pos : Pos} : ∀ {es : List Expr} {ps : List PE} {st : St} {vs : List V} {s : Shared} {T : TT} {Q : List Value → Shared → Prop}, es.any isStar = false → mapO (cE m ks) es = some ps → FrOk env ks s.heap T l → Rp g s.heap T st →
    evL r ps l st = some (vs, st') → PstL g s T st' vs Q → wpAny g.M A (spliced (backTo pos (starEach es env))) Q E s
  | [], ps, st, vs, s, T, Q, _, hc, X, R, he, q => by
    cases mapO_nil hc
    cases he
    exact wpAny_pure (q s.heap s.toks T [] .refl R trivial)
  | e :: es, ps, st, vs, s, T, Q, hs, hc, X, R, he, q => by
    simp only [List.any_cons, Bool.or_eq_false_iff] at hs
    obtain ⟨p, ps', h1, h2, rfl⟩ := mapO_cons hc
    simp only [evL] at he
    split at he
    · rename_i v s1 e1
      split at he
      · rename_i vs' s2 e2
        cases he
        refine wpAny_items_cons ?_ (starEach_cons hs.1)
        refine S.E h1 X hA R e1 fun h' tk T' x e' R' rv => ?_
        refine evL_ok S hA hs.2 h2 (X.pass e') R' e2 fun h'' tk' T'' xs e'' R'' rvs => ?_
        exact q h'' tk' T'' (x :: xs) (e'.trans fp0 e'') R'' ⟨rv.pass e'', rvs⟩
      · cases he
    · cases he

theorem evalArgs_nil' {f : Value} {M : Model} {Q : Args → Shared → Prop} (h : wpAny M A (spliced []) (fun vs s' => Q ⟨vs, []⟩ s') E s) : wpAny M A (evalArgs f true [] []) Q E s := by
  unfold evalArgs
  show wpAny M A (spliced [] >>= _) Q E s
  refine wpAny_bind (wpAny_mono h (fun vs s' h' => ?_) fun _ _ x => x)
  refine wpAny_bind (wpAny_pure ?_)
  refine wpAny_holding ?_
  exact wpAny_bind (wpAny_pure (wpAny_bind (wpAny_pure (wpAny_pure h'))))
theorem evalArgs_ok {f : Value} {args : List (Bool × Sem Value)} {Q : Args → Shared → Prop} {M : Model} (hp : args.any (·.1) = false) (h : wpAny M A (spliced args) (fun vs s' => Q ⟨vs, []⟩ s') E s) : wpAny M A (evalArgs f true args []) Q E s := by
  cases args with
  | nil => exact evalArgs_nil' h
  | cons x r =>
    obtain ⟨b, t⟩ := x
    simp only [List.any_cons, Bool.or_eq_false_iff] at hp
    obtain ⟨rfl, _⟩ := hp
    exact Calls.evalArgs_plain h

theorem keeps_any {f : Value} (h : ∀ a, f ≠ .ref a) (M : Model) (hp : Heap) : ∃ k, (k = Keeper.frame ∨ k = Keeper.machine ∨ k = Keeper.boundFrame) ∧ Looks M hp (keeperOf f) k := by
  refine ⟨.machine, .inr (.inl rfl), ?_⟩
  cases f <;> first | exact absurd rfl (h _) | exact Looks.of_pure rfl

/-- a call of any value that is kept: the arguments by the evaluator, then the call -/
theorem callW_ok (S : Snd g n r) (hA : Rm A n) {pos : Pos} {f : Value} {first : List Value} {es : List Expr} {ps : List PE} {vs : List V} {st₁ : St} (hs : es.any isStar = false) (hc : mapO (cE m ks) es = some ps) (X : FrOk env ks s.heap T l) (R : Rp g s.heap T st)
    (he : evL r ps l st = some (vs, st₁)) (hk : ∀ h, (∀ b o, g.h₀.get? b = some o → h.get? b = some o) → ∃ k, (k = Keeper.frame ∨ k = Keeper.machine ∨ k = Keeper.boundFrame) ∧ Looks g.M h (keeperOf f) k)
    (q : ∀ h' tk T' xs, Evo F0 s.heap T h' T' → Rp g h' T' st₁ → VRs h' T' vs xs → wpAny g.M A (call f (first ++ xs)) Q E { s with heap := h', toks := tk }) :
    wpAny g.M A (callWith pos f first (backTo pos (starEach es env)) (backToKw pos (keywordEach [] env))) Q E s := by
  have hp := backTo_plain (pos := pos) (starEach_plain (env := env) hs)
  refine callWith_of (P := fun h => ∀ b o, g.h₀.get? b = some o → h.get? b = some o) (by show ((backTo pos (starEach es env)).any (·.1) || false) = false; rw [hp]; rfl) hk (evalArgs_ok hp ?_)
  exact evL_ok S hA hs hc X R he fun h' tk T' xs e' R' rv => ⟨R'.keep, q h' tk T' xs e' R' rv⟩

/-! names of the text -/
theorem glob_ok (G : GOk g K fa) {x : Str} {pos : Pos} (hx : isGlob ks x = true) (X : FrOk env ks s.heap T l) (R : Rp g s.heap T st) (hd : (x == ("__debug__" : Str)) = false) {y : Value}
    (hv : nsIn K mainGlobals x = some (some y) ∨ (nsIn K mainGlobals x = some none ∧ ∃ mb, g.h₀.Ns builtinsNs mb ∧ mb x = some y)) (q : Q y s) :
    wpAny g.M A (eval (.Name x pos) env) Q E s := by
  refine wpAny_Name ?_ hd
  have hk : env.kindOf x = some .globalImplicit := by
    rw [kindOf_of X]
    unfold isGlob at hx
    split at hx
    · assumption
    · cases hx
  rw [PyProof.Rows.loadName_read X.kind hk]
  unfold loadGlobal
  rw [X.glob, X.blt]
  rcases hv with a | ⟨a, mb, b, c⟩
  · exact wpAny_bind ((looks_nsIn (M := g.M) (G.X.keeps R.keep) a).here (wpAny_pure q))
  · refine wpAny_bind ((looks_nsIn (M := g.M) (G.X.keeps R.keep) a).here ?_)
    refine wpAny_bind (wpAny_nsGet (b.keeps R.keep) ?_)
    rw [c]
    exact wpAny_pure q
theorem glob_blt (G : GOk g K fa) {x : Str} {pos : Pos} (hx : isGlob ks x = true) (X : FrOk env ks s.heap T l) (R : Rp g s.heap T st) {y : Value} (hy : bltV x = some y) (q : Q y s) : wpAny g.M A (eval (.Name x pos) env) Q E s := by
  obtain ⟨mb, h1, h2⟩ := G.gbl
  refine glob_ok G hx X R ?_ (.inr ⟨(h2 x y hy).1, mb, h1, (h2 x y hy).2⟩) q
  cases e : x == ("__debug__" : Str) with
  | false => rfl
  | true =>
    rw [beq_iff_eq.mp e] at hy
    rw [show bltV ("__debug__" : Str) = none by decide +kernel] at hy; cases hy
theorem fnm_debug : fnm.all (fun x => !(x == ("__debug__" : Str))) = true := by decide +kernel
theorem cnm_debug : cnm.all (fun x => !(x == ("__debug__" : Str))) = true := by decide +kernel
theorem in_not_debug {L : List Str} {x : Str} {i : Nat} (hL : L.all (fun x => !(x == ("__debug__" : Str))) = true) (h : codeIn L x = some i) : (x == ("__debug__" : Str)) = false := by
  obtain ⟨h1, h2⟩ := codeIn_spec h
  have : x ∈ L := by
    rw [← h2]; unfold ofCode; rw [List.getD_eq_getElem?_getD, List.getElem?_eq_getElem h1, Option.getD_some]; exact List.getElem_mem h1
  simpa using List.all_eq_true.mp hL _ this
theorem glob_fn (G : GOk g K fa) {x : Str} {pos : Pos} {i : Nat} (hx : isGlob ks x = true) (X : FrOk env ks s.heap T l) (R : Rp g s.heap T st) (hi : codeIn fnm x = some i) (q : Q (.ref (fa i)) s) : wpAny g.M A (eval (.Name x pos) env) Q E s :=
  glob_ok G hx X R (in_not_debug fnm_debug hi) (.inl (G.gfn x i hi)) q
theorem glob_cls (G : GOk g K fa) {x : Str} {pos : Pos} {i : Nat} (hx : isGlob ks x = true) (X : FrOk env ks s.heap T l) (R : Rp g s.heap T st) (hi : codeIn cnm x = some i) (q : Q (.ref (g.ca i)) s) : wpAny g.M A (eval (.Name x pos) env) Q E s :=
  glob_ok G hx X R (in_not_debug cnm_debug hi) (.inl (G.gcl x i hi)) q
end
end Mux
namespace Mux
open PySem PySem.W

theorem attributeBase_plain {o : Expr} {a : Str} {env : Env} {w : Sem Value} (h : plainBase o = true) : attributeBase o a env w = w := by
  unfold attributeBase
  split
  · cases h
  · rfl
theorem markedEach_one {op : CmpOp} {b : Expr} {t : Sem Value} (h : isSetE b = false) : markedEach [op] [b] [t] = [t] := by
  have e : markedBehindIn op b t = t := by
    refine markedBehindIn_of_false ?_
    unfold behindInMarks
    split <;> first | rfl | cases h
  unfold markedEach
  rw [e]
theorem folded_pure {e : Expr} {env : Env} {x : Value} (h : isSetE e = false) : foldedSetIterable e env x = pure x := by
  unfold foldedSetIterable
  cases e <;> first | rfl | cases h

section
variable {g : Glb} {K : Frag} {fa : Nat → Addr} {A : Around} {E : Value → Shared → Prop} {s : Shared} {T : TT} {st st' : St} {v : V} {env : Env} {ks : Ks} {l : Loc} {n m : Nat} {r : Rec} {Q : Value → Shared → Prop}

theorem const_ok {c : Const} {v : V} {i : Nat} {pos : Pos} (R : Rp g s.heap T st) (hc : cConst c = some v) (q : Pst g s T st v Q) : wpAny g.M A (eval (.Constant c i pos) env) Q E s := by
  rw [arm_eval_Constant]
  unfold cConst at hc
  split at hc
  · cases hc; exact wpAny_pure (q.now (tk := s.toks) R rfl)
  · cases hc; exact wpAny_pure (q.now (tk := s.toks) R rfl)
  · cases hc; exact wpAny_mkInt (q.now R ⟨_, rfl⟩)
  · obtain ⟨k, h1, rfl⟩ := Option.map_eq_some_iff.mp hc
    obtain ⟨h2, rfl⟩ := code_spec h1
    exact wpAny_mkText (q.now R ⟨h2, _, rfl⟩)
  · cases hc
    show wpAny _ _ (mkTextBytes _) _ _ _
    unfold mkTextBytes
    exact wpAny_bind (wpAny_fresh (wpAny_pure (q.now R ⟨_, rfl⟩)))
  · cases hc

theorem attr_ok (G : GOk g K fa) (S : Snd g n r) (hA : Rm A n) {o : Expr} {a : Str} {pos : Pos} {p : PE} {c : Nat} (X : FrOk env ks s.heap T l) (R : Rp g s.heap T st) (hb : plainBase o = true) (ho : cE m ks o = some p) (ha : code a = some c)
    (he : stepE g.P r (.attr p c) l st = some (v, st')) (q : Pst g s T st' v Q) : wpAny g.M A (eval (.Attribute o a pos) env) Q E s := by
  obtain ⟨_, rfl⟩ := code_spec ha
  simp only [stepE] at he
  split at he
  · rename_i x st1 e1
    obtain ⟨w, e2, e3⟩ := Option.map_eq_some_iff.mp he
    cases e3
    rw [arm_eval_Attribute, attributeBase_plain hb]
    refine wpAny_bind (S.E ho X hA R e1 fun h' tk T' y e' R' rv => ?_)
    refine wpAny_bind (wpAny_standAt (wpAny_bind (wpAny_holding ?_)))
    refine getA_ok G.X G.C R' rv e2 fun h'' tk'' T'' z e'' R'' rz => ?_
    exact wpAny_bind (wpAny_letTemporaryGo (wpAny_pure (q h'' tk'' T'' z (e'.trans fp0 e'') R'' rz)))
  · cases he

theorem idx_ok (S : Snd g n r) (hA : Rm A n) {o i : Expr} {pos : Pos} {p p' : PE} (X : FrOk env ks s.heap T l) (R : Rp g s.heap T st) (hs : isSlice i = false) (ho : cE m ks o = some p) (hi : cE m ks i = some p')
    (he : stepE g.P r (.idx p p') l st = some (v, st')) (q : Pst g s T st' v Q) : wpAny g.M A (eval (.Subscript o i pos) env) Q E s := by
  simp only [stepE] at he
  split at he
  · rename_i x st1 e1
    split at he
    · rename_i y st2 e2
      obtain ⟨w, e3, e4⟩ := Option.map_eq_some_iff.mp he
      cases e4
      refine PyProof.Rows.Subscript_ (S.E ho X hA R e1 fun h' tk T' a e' R' ra => ?_)
      refine S.E hi (X.pass e') hA R' e2 fun h'' tk'' T'' b e'' R'' rb => ?_
      exact sub_ok hs R'' (ra.pass e'') rb e3 ((q.after e').after e'')
    · cases he
  · cases he

theorem upto_ok (S : Snd g n r) (hA : Rm A n) {o : Expr} {pos p1 p2 : Pos} {k i : Nat} {p : PE} (X : FrOk env ks s.heap T l) (R : Rp g s.heap T st) (ho : cE m ks o = some p)
    (he : stepE g.P r (.upto p k) l st = some (v, st')) (q : Pst g s T st' v Q) : wpAny g.M A (eval (.Subscript o (.Slice none (some (.Constant (.int (.ofNat k)) i p1)) none p2) pos) env) Q E s := by
  simp only [stepE] at he
  split at he
  · rename_i vs st1 e1
    split at he
    · rename_i hz
      cases he
      refine PyProof.Rows.Subscript_ (S.E ho X hA R e1 fun h' tk T' a e' R' ra => ?_)
      rw [arm_eval_Slice]
      refine wpAny_bind (m := valueOrNone (evalOpt none env)) (wpAny_pure ?_)
      refine wpAny_bind (wpAny_holding (m := eval (.Constant (.int (.ofNat k)) i p1) env) (wpAny_Constant_int ?_))
      refine wpAny_bind (wpAny_holding (m := valueOrNone (evalOpt none env)) (wpAny_pure ?_))
      refine wpAny_newObj_type ?_ (by size_fits)
      exact slice_ok (s := { s with heap := h', toks := tk + 1 }) (lo := none) (hi := some (k : Int)) (sp := none) R' ra hz.1 .none (.int _ _) .none nofun (fun o i => ⟨_, rfl⟩)
        (fun xs hx => ⟨_, upto_pick xs k, VRs.take k hx⟩) (q.after e')
    · cases he
  · cases he

theorem rev_ok (S : Snd g n r) (hA : Rm A n) {o : Expr} {pos p1 p2 p3 : Pos} {i : Nat} {p : PE} (X : FrOk env ks s.heap T l) (R : Rp g s.heap T st) (ho : cE m ks o = some p)
    (he : stepE g.P r (.rev p) l st = some (v, st')) (q : Pst g s T st' v Q) : wpAny g.M A (eval (.Subscript o (.Slice none none (some (.UnaryOp .USub (.Constant (.int 1) i p1) p2)) p3) pos) env) Q E s := by
  simp only [stepE] at he
  split at he
  · rename_i vs st1 e1
    split at he
    · rename_i hz
      cases he
      refine PyProof.Rows.Subscript_ (S.E ho X hA R e1 fun h' tk T' a e' R' ra => ?_)
      rw [arm_eval_Slice]
      refine wpAny_bind (m := valueOrNone (evalOpt none env)) (wpAny_pure ?_)
      refine wpAny_bind (wpAny_holding (m := valueOrNone (evalOpt none env)) (wpAny_pure ?_))
      refine wpAny_bind (wpAny_holding (m := eval (.UnaryOp .USub (.Constant (.int 1) i p1) p2) env) (wpAny_UnaryOp (wpAny_Constant_int (PyProof.Rows.neg_int ?_))))
      refine wpAny_newObj_type ?_ (by size_fits)
      exact slice_ok (s := { s with heap := h', toks := tk + 1 + 1 }) (lo := none) (hi := none) (sp := some (-1)) R' ra hz .none .none (.int _ _) (by decide) (fun o i => ⟨_, rfl⟩)
        (fun xs hx => ⟨_, rev_pick xs, VRs.reverse hx⟩) (q.after e')
    · cases he
  · cases he

theorem bin_eok (S : Snd g n r) (hA : Rm A n) {a b : Expr} {o : Operator} {op : Op} {pos : Pos} {p p' : PE} (X : FrOk env ks s.heap T l) (R : Rp g s.heap T st) (ha : cE m ks a = some p) (hb : cE m ks b = some p') (ho : cOp o = some op)
    (he : stepE g.P r (.bin op p p') l st = some (v, st')) (q : Pst g s T st' v Q) : wpAny g.M A (eval (.BinOp a o b pos) env) Q E s := by
  have hop : opO op = o := by cases o <;> cases ho <;> rfl
  subst hop
  simp only [stepE] at he
  split at he
  · rename_i x st1 e1
    split at he
    · rename_i y st2 e2
      obtain ⟨w, e3, e4⟩ := Option.map_eq_some_iff.mp he
      cases e4
      refine wpAny_BinOp (S.E ha X hA R e1 fun h' tk T' a e' R' ra => ?_)
      refine S.E hb (X.pass e') hA R' e2 fun h'' tk'' T'' b e'' R'' rb => ?_
      exact bin_ok R'' (ra.pass e'') rb e3 ((q.after e').after e'')
    · cases he
  · cases he

theorem cCo_inv {o : CmpOp} {c : CO} (h : cCo o = some c) : coO c = o := by cases o <;> cases h <;> rfl
theorem cmp_eok (G : GOk g K fa) (S : Snd g n r) (hA : Rm A n) {a b : Expr} {o : CmpOp} {c : CO} {pos : Pos} {p p' : PE} (X : FrOk env ks s.heap T l) (R : Rp g s.heap T st) (hset : isSetE b = false) (ha : cE m ks a = some p) (hb : cE m ks b = some p') (ho : cCo o = some c)
    (he : stepE g.P r (.cmp c p p') l st = some (v, st')) (q : Pst g s T st' v Q) : wpAny g.M A (eval (.Compare a [o] [b] pos) env) Q E s := by
  obtain rfl := cCo_inv ho
  simp only [stepE] at he
  split at he
  · rename_i x st1 e1
    split at he
    · rename_i y st2 e2
      obtain ⟨w, e3, e4⟩ := Option.map_eq_some_iff.mp he
      cases e4
      rw [arm_eval_Compare]
      show wpAny _ _ (eval a env >>= fun left => compareChain pos left [coO c] (markedEach [coO c] [b] [eval b env])) _ _ _
      rw [markedEach_one hset]
      refine wpAny_bind (S.E ha X hA R e1 fun h' tk T' a e' R' ra => ?_)
      show wpAny _ _ (holding [a] (eval b env) >>= _) _ _ _
      refine wpAny_bind (wpAny_holding (S.E hb (X.pass e') hA R' e2 fun h'' tk'' T'' b e'' R'' rb => ?_))
      refine wpAny_bind (wpAny_standAt (PyProof.Rows.wpAny_operate' ?_))
      exact cmp_ok G.hb hA R'' (ra.pass e'') rb e3 ((q.after e').after e'')
    · cases he
  · cases he
/-- the same as a test -/
theorem cmp_bok (G : GOk g K fa) (S : Snd g n r) (hA : Rm A n) {a b : Expr} {o : CmpOp} {c : CO} {pos : Pos} {p p' : PE} {k : Bool} {Q : Bool → Shared → Prop} {wh : Sem Value} (X : FrOk env ks s.heap T l) (R : Rp g s.heap T st) (hset : isSetE b = false) (ha : cE m ks a = some p) (hb : cE m ks b = some p') (ho : cCo o = some c)
    (he : stepE g.P r (.cmp c p p') l st = some (.bool k, st')) (q : PstB g s T st' k Q) : wpAny g.M A (isTrue (.Compare a [o] [b] pos) env wh) Q E s := by
  obtain rfl := cCo_inv ho
  simp only [stepE] at he
  split at he
  · rename_i x st1 e1
    split at he
    · rename_i y st2 e2
      obtain ⟨w, e3, e4⟩ := Option.map_eq_some_iff.mp he
      cases e4
      rw [arm_isTrue_Compare]
      show wpAny _ _ (eval a env >>= fun left => testChain pos left [coO c] (markedEach [coO c] [b] [eval b env])) _ _ _
      rw [markedEach_one hset]
      refine wpAny_bind (S.E ha X hA R e1 fun h' tk T' a e' R' ra => ?_)
      show wpAny _ _ (holding [a] (eval b env) >>= _) _ _ _
      refine wpAny_bind (wpAny_holding (S.E hb (X.pass e') hA R' e2 fun h'' tk'' T'' b e'' R'' rb => ?_))
      refine wpAny_bind (wpAny_standAt (wpAny_bind (PyProof.Rows.wpAny_operate' ?_)))
      refine cmp_ok G.hb hA R'' (ra.pass e'') rb e3 fun h3 tk3 T3 z e3' R3 rz => ?_
      cases rz
      exact wpAny_holding (wpAny_truthy_bool (q h3 tk3 T3 ((e'.trans fp0 e'').trans fp0 e3') R3))
    · cases he
  · cases he

theorem not_eok (S : Snd g n r) (hA : Rm A n) {a : Expr} {pos : Pos} {p : PE} (X : FrOk env ks s.heap T l) (R : Rp g s.heap T st) (ha : cE m ks a = some p)
    (he : stepE g.P r (.not p) l st = some (v, st')) (q : Pst g s T st' v Q) : wpAny g.M A (eval (.UnaryOp .Not a pos) env) Q E s := by
  simp only [stepE] at he
  split at he
  · rename_i b st1 e1
    cases he
    refine wpAny_UnaryOp (S.E ha X hA R e1 fun h' tk T' a e' R' ra => ?_)
    cases ra
    exact not_value (wpAny_truthy_bool (q h' tk T' _ e' R' rfl))
  · cases he
theorem neg_eok (S : Snd g n r) (hA : Rm A n) {a : Expr} {pos : Pos} {p : PE} (X : FrOk env ks s.heap T l) (R : Rp g s.heap T st) (ha : cE m ks a = some p)
    (he : stepE g.P r (.neg p) l st = some (v, st')) (q : Pst g s T st' v Q) : wpAny g.M A (eval (.UnaryOp .USub a pos) env) Q E s := by
  simp only [stepE] at he
  split at he
  · rename_i b st1 e1
    cases he
    refine wpAny_UnaryOp (S.E ha X hA R e1 fun h' tk T' a e' R' ra => ?_)
    obtain ⟨t, rfl⟩ := ra
    exact PyProof.Rows.neg_int (q h' _ T' _ e' R' ⟨_, rfl⟩)
  · cases he
theorem ite_eok (S : Snd g n r) (hA : Rm A n) {c a b : Expr} {pos : Pos} {pc pa pb : PE} (X : FrOk env ks s.heap T l) (R : Rp g s.heap T st) (hc : cE m ks c = some pc) (ha : cE m ks a = some pa) (hb : cE m ks b = some pb)
    (he : stepE g.P r (.ite pc pa pb) l st = some (v, st')) (q : Pst g s T st' v Q) : wpAny g.M A (eval (.IfExp c a b pos) env) Q E s := by
  simp only [stepE] at he
  rw [arm_eval_IfExp]
  split at he
  · rename_i st1 e1
    refine wpAny_bind (S.B hc X hA R e1 fun h' tk T' e' R' => ?_)
    exact S.E ha (X.pass e') hA R' he (q.after e')
  · rename_i st1 e1
    refine wpAny_bind (S.B hc X hA R e1 fun h' tk T' e' R' => ?_)
    exact S.E hb (X.pass e') hA R' he (q.after e')
  · cases he

/-! and, or -/
theorem bop_eok (S : Snd g n r) (hA : Rm A n) {o : BoolOp} {pos : Pos} : ∀ {es : List Expr} {ps : List PE} {st : St} {s : Shared} {T : TT} {Q : Value → Shared → Prop}, mapO (cE m ks) es = some ps → FrOk env ks s.heap T l → Rp g s.heap T st →
    bopE r (o == .And) ps l st = some (v, st') → Pst g s T st' v Q → wpAny g.M A (boolOp pos o (evalEach es env)) Q E s
  | [], ps, st, s, T, Q, hc, X, R, he, q => by cases mapO_nil hc; cases he
  | [e], ps, st, s, T, Q, hc, X, R, he, q => by
    obtain ⟨p, ps', h1, h2, rfl⟩ := mapO_cons hc
    cases mapO_nil h2
    exact S.E h1 X hA R he q
  | e :: e2 :: es, ps, st, s, T, Q, hc, X, R, he, q => by
    obtain ⟨p, ps', h1, h2, rfl⟩ := mapO_cons hc
    have h2' := h2
    obtain ⟨p2, ps2, h3, h4, rfl⟩ := mapO_cons h2
    simp only [bopE] at he
    split at he
    · rename_i b st1 e1
      show wpAny _ _ (eval e env >>= fun v => standAt pos >>= fun _ => holding [v] (truthy v) >>= fun t => match o, t with
        | .And, false | .Or, true => pure v
        | _, _ => boolOp pos o (evalEach (e2 :: es) env)) _ _ _
      refine wpAny_bind (S.E h1 X hA R e1 fun h' tk T' a e' R' ra => ?_)
      cases ra
      refine wpAny_bind (wpAny_standAt (wpAny_bind (wpAny_holding (wpAny_truthy_bool ?_))))
      have next : wpAny g.M A (boolOp pos o (evalEach (e2 :: es) env)) Q E { s with heap := h', toks := tk } → wpAny g.M A (boolOp pos o (evalEach (e2 :: es) env)) Q E { s with heap := h', toks := tk } := id
      cases o <;> cases b <;> simp only [reduceIte, beq_self_eq_true, Bool.false_eq_true, show (BoolOp.Or == BoolOp.And) = false from rfl] at he <;>
        first
        | (split at he
           · rename_i hb
             first
               | exact absurd hb (by decide)
               | exact bop_eok S hA h2' (X.pass e') R' he (q.after e')
           · cases he; exact wpAny_pure (q h' tk T' _ e' R' rfl))
        | exact bop_eok S hA h2' (X.pass e') R' he (q.after e')
        | (cases he; exact wpAny_pure (q h' tk T' _ e' R' rfl))
    · cases he
theorem bop_bok (S : Snd g n r) (hA : Rm A n) {o : BoolOp} {k : Bool} : ∀ {es : List Expr} {ps : List PE} {st : St} {s : Shared} {T : TT} {Q : Bool → Shared → Prop}, mapO (cE m ks) es = some ps → FrOk env ks s.heap T l → Rp g s.heap T st →
    bopB r (o == .And) ps l st = some (k, st') → PstB g s T st' k Q → wpAny g.M A (allTrue o es env) Q E s
  | [], ps, st, s, T, Q, hc, X, R, he, q => by
    cases mapO_nil hc
    cases he
    exact wpAny_pure (q s.heap s.toks T .refl R)
  | e :: es, ps, st, s, T, Q, hc, X, R, he, q => by
    obtain ⟨p, ps', h1, h2, rfl⟩ := mapO_cons hc
    simp only [bopB] at he
    split at he
    · rename_i b st1 e1
      rw [arm_allTrue_cons]
      refine wpAny_bind (S.B h1 X hA R e1 fun h' tk T' e' R' => ?_)
      cases o <;> cases b <;> simp only [reduceIte, beq_self_eq_true, Bool.false_eq_true, show (BoolOp.Or == BoolOp.And) = false from rfl] at he <;>
        first
        | exact bop_bok S hA h2 (X.pass e') R' he (q.after e')
        | (cases he; exact wpAny_pure (q h' tk T' e' R'))
    · cases he
end
end Mux
namespace Mux
open PySem PySem.W

section
variable {g : Glb} {K : Frag} {fa : Nat → Addr} {A : Around} {E : Value → Shared → Prop} {s : Shared} {T : TT} {st st' : St} {v : V} {env : Env} {ks : Ks} {l : Loc} {n m : Nat} {r : Rec} {Q : Value → Shared → Prop}

theorem list_eok (S : Snd g n r) (hA : Rm A n) {es : List Expr} {ps : List PE} {pos : Pos} (X : FrOk env ks s.heap T l) (R : Rp g s.heap T st) (hs : es.any isStar = false) (hc : mapO (cE m ks) es = some ps)
    (he : stepE g.P r (.list ps) l st = some (v, st')) (q : Pst g s T st' v Q) : wpAny g.M A (eval (.List es pos) env) Q E s := by
  simp only [stepE] at he
  split at he
  · rename_i vs st1 e1
    split at he
    · rename_i hz
      cases he
      rw [arm_eval_List]
      refine wpAny_bind (wpAny_standAt (wpAny_bind (evL_ok S hA hs hc X R e1 fun h' tk T' xs e' R' rv => ?_)))
      exact newList_ok (q.after e') R' rv hz
    · cases he
  · cases he
theorem tup_eok (S : Snd g n r) (hA : Rm A n) {es : List Expr} {ps : List PE} {i : Nat} {pos : Pos} (X : FrOk env ks s.heap T l) (R : Rp g s.heap T st) (hs : es.any isStar = false) (hc : mapO (cE m ks) es = some ps)
    (he : stepE g.P r (.tup ps) l st = some (v, st')) (q : Pst g s T st' v Q) : wpAny g.M A (eval (.Tuple es i pos) env) Q E s := by
  simp only [stepE] at he
  split at he
  · rename_i vs st1 e1
    split at he
    · rename_i hz
      cases he
      rw [arm_eval_Tuple]
      refine wpAny_bind (wpAny_standAt (wpAny_bind (evL_ok S hA hs hc X R e1 fun h' tk T' xs e' R' rv => ?_)))
      exact newTup_ok (q.after e') R' rv hz
    · cases he
  · cases he
theorem ml0_eok {pos : Pos} (X : FrOk env ks s.heap T l) (R : Rp g s.heap T st) (he : stepE g.P r (.ml []) l st = some (v, st')) (q : Pst g s T st' v Q) : wpAny g.M A (eval (.List [] pos) env) Q E s := by
  simp only [stepE, evL, List.length_nil, Nat.zero_le, if_true] at he
  cases he
  rw [arm_eval_List]
  refine wpAny_bind (wpAny_standAt (wpAny_bind (wpAny_items_nil ?_)))
  exact newMl_ok (vs := []) q R trivial (by simp)
theorem ml1_eok (hr : ∀ v l st w st', r.E (.const v) l st = some (w, st') → w = v ∧ st' = st) {i : Int} {j : Nat} {pos p1 : Pos} (X : FrOk env ks s.heap T l) (R : Rp g s.heap T st) (he : stepE g.P r (.ml [.const (.int i)]) l st = some (v, st')) (q : Pst g s T st' v Q) :
    wpAny g.M A (eval (.List [.Constant (.int i) j p1] pos) env) Q E s := by
  simp only [stepE, evL] at he
  split at he
  · rename_i vs st1 e1
    split at e1
    · rename_i w st2 e2
      obtain ⟨rfl, rfl⟩ := hr _ _ _ _ _ e2
      cases e1
      simp only [List.length_cons, List.length_nil, show (0 + 1 ≤ 1000) = True from by simp, if_true] at he
      cases he
      rw [arm_eval_List]
      refine wpAny_bind (wpAny_standAt (wpAny_bind (wpAny_items_cons (wpAny_Constant_int (wpAny_items_nil ?_)))))
      exact newMl_ok (s := { s with toks := s.toks + 1 }) (vs := [.int i]) (xs := [.int i s.toks]) (Pst.after (h := s.heap) q .refl) R ⟨⟨_, rfl⟩, trivial⟩ (by simp)
    · cases e1
  · cases he

/-! dict displays: the dict is laid first -/
theorem newDict_now (R : Rp g s.heap T st) : ∃ T', T' s.heap.objs.size = some (.dict st.dicts.length) ∧ Evo F0 s.heap T (s.heap.push { cls := .type "dict", data := .dict #[] }) T' ∧ Rp g (s.heap.push { cls := .type "dict", data := .dict #[] }) T' { st with dicts := st.dicts ++ [[]] } := by
  have k := push_keeps s.heap { cls := .type "dict", data := .dict #[] }
  have hn : s.heap.get? s.heap.objs.size = none := by
    cases q : s.heap.get? s.heap.objs.size with
    | none => rfl
    | some o => exact absurd (Heap.lt_size q) (Nat.lt_irrefl _)
  exact ⟨_, TT.put_same _ _ _, .put (R.new (Nat.le_refl _)) hn k, R.newDict (es := []) (kvs := []) (Nat.le_refl _) k (Heap.DictOf.new ..) trivial⟩
theorem newSd_now (R : Rp g s.heap T st) : ∃ T', T' s.heap.objs.size = some (.sd st.sds.length) ∧ Evo F0 s.heap T (s.heap.push { cls := .type "dict", data := .dict #[] }) T' ∧ Rp g (s.heap.push { cls := .type "dict", data := .dict #[] }) T' { st with sds := st.sds ++ [[]] } := by
  have k := push_keeps s.heap { cls := .type "dict", data := .dict #[] }
  have hn : s.heap.get? s.heap.objs.size = none := by
    cases q : s.heap.get? s.heap.objs.size with
    | none => rfl
    | some o => exact absurd (Heap.lt_size q) (Nat.lt_irrefl _)
  exact ⟨_, TT.put_same _ _ _, .put (R.new (Nat.le_refl _)) hn k, R.newSd (es := []) (kvs := []) (Nat.le_refl _) k (Heap.DictOf.new ..) trivial⟩

theorem dict0_eok {pos : Pos} (R : Rp g s.heap T st) (he : stepE g.P r .dict0 l st = some (v, st')) (q : Pst g s T st' v Q) : wpAny g.M A (eval (.Dict [] [] pos) env) Q E s := by
  simp only [stepE] at he
  cases he
  rw [arm_eval_Dict]
  obtain ⟨T', h1, h2, h3⟩ := newDict_now R
  refine wpAny_bind (wpAny_standAt ?_)
  show wpAny _ _ (newDict) _ _ _
  unfold newDict
  refine wpAny_newObj_type ?_ (by size_fits)
  exact q _ s.toks T' _ h2 h3 ⟨_, rfl, h1⟩
end
end Mux
namespace Mux
open PySem PySem.W

theorem stored_fresh {K : Type} [DecidableEq K] {kvs : List (K × Value)} {k : K} {v : Value} (h : k ∉ kvs.map (·.1)) : stored kvs k v = kvs ++ [(k, v)] := by
  unfold stored
  rw [if_neg]
  intro q
  obtain ⟨kv, h1, h2⟩ := List.any_eq_true.mp q
  exact h (List.mem_map.mpr ⟨kv, h1, of_decide_eq_true h2⟩)
theorem merged_fresh {K : Type} [DecidableEq K] : ∀ (kvs acc : List (K × Value)), ((acc ++ kvs).map (·.1)).Nodup → merged acc kvs = acc ++ kvs
  | [], acc, _ => by simp [merged]
  | (k, v) :: r, acc, h => by
    have h1 : k ∉ acc.map (·.1) := by
      intro q
      rw [List.map_append, List.nodup_append] at h
      exact h.2.2 k q k (by simp) rfl
    show merged (stored acc k v) r = _
    rw [stored_fresh h1, merged_fresh r (acc ++ [(k, v)]) (by simpa using h)]
    simp
theorem SR.keys {h : Heap} {T : TT} : ∀ {es : List (Nat × V)} {kvs : List (Str × Value)}, SR h T es kvs → kvs.map (·.1) = es.map fun p => ofCode nm p.1
  | [], [], _ => rfl
  | (k, v) :: es, (q, x) :: kvs, r => by rw [List.map_cons, List.map_cons, SR.keys r.2]; exact congrArg (· :: _) r.1.2.1
  | [], _ :: _, r => r.elim
  | _ :: _, [], r => r.elim
theorem SR.lt {h : Heap} {T : TT} : ∀ {es : List (Nat × V)} {kvs : List (Str × Value)}, SR h T es kvs → ∀ p ∈ es, p.1 < nm.length
  | [], [], _, p, hp => by cases hp
  | (k, v) :: es, (q, x) :: kvs, r, p, hp => by
    rcases List.mem_cons.mp hp with rfl | hp
    · exact r.1.1
    · exact SR.lt r.2 p hp
  | [], _ :: _, r, _, _ => r.elim
  | _ :: _, [], r, _, _ => r.elim
theorem ofCode_nodup : ∀ {cs : List Nat}, (∀ c ∈ cs, c < nm.length) → cs.Nodup → (cs.map (ofCode nm)).Nodup
  | [], _, _ => by simp
  | c :: cs, hl, hn => by
    simp only [List.nodup_cons] at hn
    rw [List.map_cons, List.nodup_cons]
    refine ⟨fun q => ?_, ofCode_nodup (fun c hc => hl c (.tail _ hc)) hn.2⟩
    obtain ⟨d, h1, h2⟩ := List.mem_map.mp q
    have := ofCode_inj (hl d (.tail _ h1)) (hl c (.head _)) h2
    subst this; exact hn.1 h1

/-- a key's expression: a written str -/
def IsKey (e : Expr) (c : Nat) : Prop := ∃ x i p, e = .Constant (.str x) i p ∧ code x = some c
def KeysAre : List (Option Expr) → List Nat → Prop
  | [], [] => True
  | o :: r, c :: cs => (∃ e, o = some e ∧ IsKey e c) ∧ KeysAre r cs
  | _, _ => False
theorem keysO_are : ∀ {ks : List (Option Expr)} {cs : List Nat}, keysO ks = some cs → KeysAre ks cs
  | [], cs, h => by cases h; trivial
  | o :: r, cs, h => by
    unfold keysO at h
    split at h
    · cases ‹_ :: _ = []›
    · rename_i x i p r' e
      cases e
      split at h
      · rename_i c hc
        obtain ⟨cs', h1, rfl⟩ := Option.map_eq_some_iff.mp h
        exact ⟨⟨_, rfl, x, i, p, rfl, hc⟩, keysO_are h1⟩
      · cases h
    · cases h

section
variable {g : Glb} {K : Frag} {fa : Nat → Addr} {A : Around} {E : Value → Shared → Prop} {s : Shared} {T : TT} {st st' : St} {v : V} {env : Env} {ks : Ks} {l : Loc} {n m : Nat} {r : Rec} {Q : Value → Shared → Prop}

theorem dict1_eok (S : Snd g n r) (hA : Rm A n) {e1 e2 : Expr} {p1 p2 : PE} {pos : Pos} (X : FrOk env ks s.heap T l) (R : Rp g s.heap T st) (h1 : cE m ks e1 = some p1) (h2 : cE m ks e2 = some p2)
    (he : stepE g.P r (.dict1 p1 p2) l st = some (v, st')) (q : Pst g s T st' v Q) : wpAny g.M A (eval (.Dict [some e1] [e2] pos) env) Q E s := by
  simp only [stepE] at he
  split at he
  · rename_i k s1 a1
    split at he
    · rename_i w s2 a2
      split at he
      · rename_i a3
        cases he
        obtain ⟨T0, b1, b2, b3⟩ := newDict_now R
        refine wpAny_Dict_pairs (knd := oKind g.prog g.w) (pairs := [(eval e1 env, do let x ← eval e2 env; standAt pos; pure x)]) rfl nofun (by simp) ?_
        refine evalPairs_cons (S.E (s := { s with heap := _ }) h1 (X.pass b2) hA b3 a1 fun h' tk T' x e' R' rv => ?_)
        refine wpAny_bind (S.E h2 ((X.pass b2).pass e') hA R' a2 fun h'' tk'' T'' y e'' R'' ry => ?_)
        refine wpAny_bind (wpAny_standAt (wpAny_pure (evalPairs_nil ?_)))
        obtain ⟨t, rfl⟩ := rv
        have hT : T'' s.heap.objs.size = some (.dict st.dicts.length) := e''.role _ _ (e'.role _ _ b1)
        obtain ⟨es, kvs, c1, c2, c3⟩ := R''.dict _ _ hT
        rw [a3] at c1; cases c1
        have hk : kvs = [] := by cases kvs with | nil => rfl | cons _ _ => exact c3.elim
        subst hk
        refine ⟨[(some k, y)], ⟨by simp [oKind, isOI, Value.isInt], rfl, trivial⟩, c2, fun h3 d3 s3 => ?_⟩
        have hm : merged [] [(some k, y)] = [(some k, y)] := merged_fresh _ _ (by simp)
        rw [hm] at d3
        have e3 : Evo F0 h'' T'' h3 T'' := same_evo s3 hT rfl
        exact q h3 _ T'' _ (((b2.trans fp0 e').trans fp0 e'').trans fp0 e3) (R''.setDict hT (List.getElem?_eq_some_iff.mp a3).1 s3 d3 (es := [(k, w)]) ⟨⟨rfl, ry⟩, trivial⟩) ⟨_, rfl, hT⟩
      · cases he
    · cases he
  · cases he

/-- the pairs of a display by written strs -/
def pairsX (env : Env) (pos : Pos) : List (Option Expr) → List Expr → List (Sem Value × Sem Value)
  | some k :: r, v :: vs => (eval k env, do let x ← eval v env; standAt pos; pure x) :: pairsX env pos r vs
  | _, _ => []
theorem pairsX_shape {pos : Pos} : ∀ {keys : List (Option Expr)} {cs : List Nat} {vals : List Expr}, KeysAre keys cs → keys.length = vals.length →
    (evalEachOpt keys env).zip ((evalEach vals env).map fun v => do let x ← v; standAt pos; pure x) = (pairsX env pos keys vals).map (fun p => (some p.1, p.2)) ∧ (pairsX env pos keys vals).length = vals.length
  | [], [], [], _, _ => ⟨rfl, rfl⟩
  | o :: r, c :: cs, v :: vs, h, hl => by
    obtain ⟨⟨e, rfl, _⟩, h2⟩ := h
    obtain ⟨a, b⟩ := pairsX_shape (pos := pos) h2 (vals := vs) (by simpa using hl)
    constructor
    · show ((some (eval e env)) :: evalEachOpt r env).zip (_ :: List.map _ (evalEach vs env)) = _
      rw [List.zip_cons_cons, a]; rfl
    · show List.length (_ :: pairsX env pos r vs) = _
      rw [List.length_cons, b, List.length_cons]
  | [], _ :: _, _, h, _ => h.elim
  | _ :: _, [], _, h, _ => h.elim
  | _ :: _, _ :: _, [], _, hl => by simp at hl
  | [], [], _ :: _, _, hl => by simp at hl

theorem pairsX_ok (S : Snd g n r) (hA : Rm A n) {pos : Pos} : ∀ {keys : List (Option Expr)} {cs : List Nat} {vals : List Expr} {ps : List PE} {vs : List V} {st : St} {s : Shared} {T : TT} {Q : List (Value × Value) → Shared → Prop},
    KeysAre keys cs → keys.length = vals.length → mapO (cE m ks) vals = some ps → FrOk env ks s.heap T l → Rp g s.heap T st → evL r ps l st = some (vs, st') →
    (∀ h' tk T' xs kvs, Evo F0 s.heap T h' T' → Rp g h' T' st' → Carries (strKind g.prog g.w) xs kvs → SR h' T' (cs.zip vs) kvs → Q xs { s with heap := h', toks := tk }) → wpAny g.M A (evalPairs (pairsX env pos keys vals)) Q E s
  | [], [], [], ps, vs, st, s, T, Q, _, _, hc, X, R, he, q => by
    cases mapO_nil hc
    cases he
    exact evalPairs_nil (q s.heap s.toks T [] [] .refl R trivial trivial)
  | o :: r', c :: cs, v :: vs', ps, vs, st, s, T, Q, hk, hl, hc, X, R, he, q => by
    obtain ⟨⟨e, rfl, x, i, p, rfl, hx⟩, h2⟩ := hk
    obtain ⟨p1, ps', h3, h4, rfl⟩ := mapO_cons hc
    obtain ⟨hlt, rfl⟩ := code_spec hx
    simp only [evL] at he
    split at he
    · rename_i w s1 e1
      split at he
      · rename_i ws s2 e2
        cases he
        refine evalPairs_cons (wpAny_Constant_str ?_)
        refine wpAny_bind (S.E (s := { s with toks := s.toks + 1 }) h3 X hA R e1 fun h' tk T' y e' R' ry => ?_)
        refine wpAny_bind (wpAny_standAt (wpAny_pure ?_))
        refine pairsX_ok S hA h2 (by simpa using hl) h4 (X.pass e') R' e2 fun h'' tk'' T'' xs kvs e'' R'' hcar hsr => ?_
        exact q h'' tk'' T'' _ ((ofCode nm c, y) :: kvs) (e'.trans fp0 e'') R'' ⟨strKind_is _ _ _ _, rfl, hcar⟩ ⟨⟨hlt, rfl, ry.pass e''⟩, hsr⟩
      · cases he
    · cases he
  | [], _ :: _, _, _, _, _, _, _, _, h, _, _, _, _, _, _ => h.elim
  | _ :: _, [], _, _, _, _, _, _, _, h, _, _, _, _, _, _ => h.elim
  | _ :: _, _ :: _, [], _, _, _, _, _, _, _, hl, _, _, _, _, _ => by simp at hl
  | [], [], _ :: _, _, _, _, _, _, _, _, hl, _, _, _, _, _ => by simp at hl

theorem evL_length {r : Rec} {l : Loc} : ∀ {ps : List PE} {st st' : St} {vs : List V}, evL r ps l st = some (vs, st') → vs.length = ps.length
  | [], st, st', vs, h => by cases h; rfl
  | p :: ps, st, st', vs, h => by
    simp only [evL] at h
    split at h
    · split at h
      · rename_i e2
        cases h
        rw [List.length_cons, List.length_cons, evL_length e2]
      · cases h
    · cases h

theorem sdict_eok (S : Snd g n r) (hA : Rm A n) {keys : List (Option Expr)} {vals : List Expr} {cs : List Nat} {ps : List PE} {pos : Pos} (X : FrOk env ks s.heap T l) (R : Rp g s.heap T st) (hlen : keys.length = vals.length ∧ 1 ≤ vals.length ∧ vals.length ≤ 15)
    (hk : keysO keys = some cs) (hc : mapO (cE m ks) vals = some ps) (hnd : cs.Nodup) (he : stepE g.P r (.sdict cs ps) l st = some (v, st')) (q : Pst g s T st' v Q) : wpAny g.M A (eval (.Dict keys vals pos) env) Q E s := by
  simp only [stepE] at he
  split at he
  · rename_i vs s1 e1
    split at he
    · rename_i a3
      split at he
      · rename_i hl2
        cases he
        obtain ⟨T0, b1, b2, b3⟩ := newSd_now R
        have hka := keysO_are hk
        obtain ⟨sh, shl⟩ := pairsX_shape (env := env) (pos := pos) hka hlen.1
        refine wpAny_Dict_pairs (knd := strKind g.prog g.w) sh (fun e => by rw [e] at shl; have := hlen.2.1; simp at shl; omega) (by rw [shl]; exact hlen.2.2) ?_
        refine pairsX_ok (s := { s with heap := _ }) S hA hka hlen.1 hc (X.pass b2) b3 e1 fun h' tk T' xs kvs e' R' hcar hsr => ?_
        have hT : T' s.heap.objs.size = some (.sd st.sds.length) := e'.role _ _ b1
        obtain ⟨es, kvs0, c1, c2, c3⟩ := R'.sd _ _ hT
        rw [a3] at c1; cases c1
        have hk0 : kvs0 = [] := by cases kvs0 with | nil => rfl | cons _ _ => exact c3.elim
        subst hk0
        refine ⟨kvs, hcar, c2, fun h3 d3 s3 => ?_⟩
        have hm : merged [] kvs = kvs := by
          have := merged_fresh kvs [] (by
            rw [List.nil_append, hsr.keys]
            have hz : ((cs.zip vs).map fun p => ofCode nm p.1) = cs.map (ofCode nm) := by
              rw [show (fun p : Nat × V => ofCode nm p.1) = (ofCode nm) ∘ Prod.fst from rfl, ← List.map_map, List.map_fst_zip (by omega)]
            rw [hz]
            refine ofCode_nodup (fun c hc => ?_) hnd
            have : c ∈ (cs.zip vs).map Prod.fst := by rw [List.map_fst_zip (by omega)]; exact hc
            obtain ⟨p, hp, rfl⟩ := List.mem_map.mp this
            exact hsr.lt p hp)
          simpa using this
        rw [hm] at d3
        have e3 : Evo F0 h' T' h3 T' := same_evo s3 hT rfl
        exact q h3 _ T' _ ((b2.trans fp0 e').trans fp0 e3) (R'.setSd hT (List.getElem?_eq_some_iff.mp a3).1 s3 d3 hsr) ⟨_, rfl, hT⟩
      · cases he
    · cases he
  · cases he
end
end Mux
namespace Mux
open PySem PySem.W

def addDef (slots : List (Str × Value)) (p : Str × Value) : List (Str × Value) := if (slots.lookup p.1).isNone = true then slots ++ [(p.1, p.2)] else slots
theorem lookup_zip_some {xs : List Value} : ∀ {names : List Str} {n : Str}, (List.lookup n (names.zip xs)).isSome = true ↔ n ∈ names.take xs.length := by
  induction xs with
  | nil => intro names n; simp
  | cons x xs ih =>
    intro names n
    cases names with
    | nil => simp
    | cons m names =>
      rw [List.zip_cons_cons, List.lookup_cons, List.length_cons, List.take_succ_cons, List.mem_cons]
      cases h : n == m with
      | true => simp [beq_iff_eq.mp h]
      | false => simp [ih, show n ≠ m from fun q => by subst q; simp at h]
theorem addDef_skip {slots : List (Str × Value)} : ∀ {L : List (Str × Value)}, (∀ p ∈ L, (slots.lookup p.1).isSome = true) → L.foldl addDef slots = slots
  | [], _ => rfl
  | p :: r, h => by
    have := h p (.head _)
    rw [List.foldl_cons, show addDef slots p = slots by unfold addDef; rw [if_neg]; cases e : slots.lookup p.1 <;> simp_all]
    exact addDef_skip fun q hq => h q (.tail _ hq)
theorem lookup_append {l l' : List (Str × Value)} {n : Str} : (l ++ l').lookup n = (l.lookup n).or (l'.lookup n) := by
  induction l with
  | nil => simp
  | cons p r ih =>
    obtain ⟨k, v⟩ := p
    rw [List.cons_append, List.lookup_cons, List.lookup_cons]
    cases n == k <;> simp [ih]
theorem lookup_map_none {L : List Str} {n : Str} : (List.lookup n (L.map fun m => (m, Value.none))).isSome = true ↔ n ∈ L := by
  induction L with
  | nil => simp
  | cons m L ih =>
    rw [List.map_cons, List.lookup_cons, List.mem_cons]
    cases h : n == m with
    | true => simp [beq_iff_eq.mp h]
    | false => simp only [ih]; constructor
               · exact .inr
               · rintro (rfl | q)
                 · simp at h
                 · exact q
theorem addDef_all {slots : List (Str × Value)} : ∀ {L : List Str}, L.Nodup → (∀ n ∈ L, slots.lookup n = none) → (L.map fun n => (n, Value.none)).foldl addDef slots = slots ++ L.map fun n => (n, Value.none)
  | [], _, _ => by simp
  | n :: L, hn, h => by
    simp only [List.nodup_cons] at hn
    rw [List.map_cons, List.foldl_cons]
    have e : addDef slots (n, .none) = slots ++ [(n, .none)] := by unfold addDef; rw [if_pos (by rw [h n (.head _)]; rfl)]
    rw [e, addDef_all hn.2 fun m hm => ?_]
    · simp
    · rw [lookup_append, h m (.tail _ hm), List.lookup_cons]
      have : (m == n) = false := beq_eq_false_iff_ne.mpr fun q => by subst q; exact hn.1 hm
      simp [this]
theorem filterMap_slots : ∀ {names : List Str} {ys : List Value} {S : List (Str × Value)}, (∀ (i : Nat) n, names[i]? = some n → S.lookup n = ys[i]?) → ys.length = names.length → (names.filterMap fun n => (S.lookup n).map fun x => (n, x)) = names.zip ys
  | [], ys, S, _, _ => by simp
  | n :: names, [], S, _, hl => by simp at hl
  | n :: names, y :: ys, S, h, hl => by
    have h0 := h 0 n rfl
    simp only [List.getElem?_cons_zero] at h0
    rw [List.filterMap_cons, h0, List.zip_cons_cons]
    simp only [Option.map_some]
    rw [filterMap_slots (fun i m hm => by simpa using h (i + 1) m (by simpa using hm)) (by simpa using hl)]
theorem lookup_zip_nodup : ∀ {names : List Str} {ys : List Value}, names.Nodup → ∀ (i : Nat) (n : Str), names[i]? = some n → (names.zip ys).lookup n = ys[i]?
  | [], ys, _, i, n, h => by simp at h
  | m :: names, [], _, i, n, h => by simp
  | m :: names, y :: ys, hn, 0, n, h => by simp at h; subst h; simp
  | m :: names, y :: ys, hn, i + 1, n, h => by
    simp only [List.nodup_cons] at hn
    have h' : names[i]? = some n := by simpa using h
    rw [List.zip_cons_cons, List.lookup_cons]
    have : (n == m) = false := beq_eq_false_iff_ne.mpr fun q => by subst q; exact hn.1 (List.mem_of_getElem? h')
    rw [this]
    simpa using lookup_zip_nodup hn.2 i n h'

theorem zip_none : ∀ (L : List Str) (d : Nat), L.length = d → L.zip (List.replicate d Value.none) = L.map fun n => (n, Value.none)
  | [], _, _ => by simp
  | a :: L, d, h => by
    subst h
    rw [List.length_cons, List.replicate_succ, List.zip_cons_cons, zip_none L _ rfl]; rfl

theorem bind_ok {g : Glb} {A : Around} {E : Value → Shared → Prop} {s : Shared} {fd : FuncData} {xs : List Value} {D : Option (Array Value)} {Q : List (Str × Value) → Shared → Prop} (h1 : fd.params.posonlyargs = []) (h2 : fd.params.kwonlyargs = []) (h3 : fd.params.vararg = none) (h4 : fd.params.kwarg = none)
    (hn : (fd.params.args.map (·.arg)).Nodup) (hd : ∀ {Q : Option (Array Value) → Shared → Prop}, Q D s → wpAny g.M A (seqItems? fd.defaults) Q E s)
    (hx : xs.length = (fd.params.args.map (·.arg)).length ∨ (xs.length ≤ (fd.params.args.map (·.arg)).length ∧ ∃ d, D = some (Array.replicate d Value.none) ∧ d ≤ (fd.params.args.map (·.arg)).length ∧ (fd.params.args.map (·.arg)).length ≤ xs.length + d))
    (q : Q ((fd.params.args.map (·.arg)).zip (xs ++ List.replicate ((fd.params.args.map (·.arg)).length - xs.length) .none)) s) : wpAny g.M A (bindArgs fd ⟨xs, []⟩) Q E s := by
  unfold bindArgs
  simp only [h1, h2, h3, h4, List.map_nil, List.nil_append, List.forIn_nil, pure_bind, List.append_nil, List.isEmpty_nil, Bool.not_true, Bool.false_eq_true, if_false, Option.isNone_none, Bool.and_true]
  refine wpAny_bind (hd ?_)
  generalize hnm : fd.params.args.map (·.arg) = names at hn hx q ⊢
  have hle : xs.length ≤ names.length := by rcases hx with h | h <;> omega
  have hdl : (decide (xs.length > names.length)) = false := by simp; omega
  rw [hdl]
  simp only [Bool.false_eq_true, if_false]
  generalize hDl : (D.getD #[]).toList = Dl
  have hfd : names.length - (Dl.drop (Dl.length - names.length)).length ≤ xs.length := by
    rcases hx with h | ⟨_, d, rfl, h5, h6⟩
    · omega
    · have : Dl.length = d := by rw [← hDl]; simp
      rw [List.length_drop]; omega
  have hmiss : (List.filter (fun n => (List.lookup n (names.zip xs)).isNone) (names.take (names.length - (Dl.drop (Dl.length - names.length)).length))) = [] := by
    rw [List.filter_eq_nil_iff]
    intro n hm
    have hm' : n ∈ names.take xs.length := by
      have e : names.take (names.length - (Dl.drop (Dl.length - names.length)).length) = (names.take xs.length).take (names.length - (Dl.drop (Dl.length - names.length)).length) := by
        rw [List.take_take, Nat.min_eq_left hfd]
      rw [e] at hm
      exact List.mem_of_mem_take hm
    have := lookup_zip_some.mpr hm'
    cases e : List.lookup n (names.zip xs) <;> simp_all
  rw [hmiss]
  simp only [List.isEmpty_nil, Bool.not_true, Bool.false_eq_true, if_false]
  have hfor : ∀ (L : List (Str × Value)) (S : List (Str × Value)), (forIn L S fun x r => if (List.lookup x.1 r).isNone = true then pure (ForInStep.yield (r ++ [(x.1, x.2)])) else pure (ForInStep.yield r) : Sem (List (Str × Value))) = pure (L.foldl addDef S) := by
    intro L
    induction L with
    | nil => intro S; simp
    | cons p L ih =>
      intro S
      rw [List.forIn_cons, List.foldl_cons]
      unfold addDef
      split <;> simp only [pure_bind] <;> exact ih _
  rw [hfor]
  refine wpAny_bind (wpAny_pure ?_)
  refine wpAny_pure ?_
  have fin : ∀ S : List (Str × Value), (∀ (i : Nat) n, names[i]? = some n → S.lookup n = (xs ++ List.replicate (names.length - xs.length) Value.none)[i]?) → Q (names.filterMap fun n => (S.lookup n).map fun x => (n, x)) s := fun S hS => by
    rw [filterMap_slots hS (by simp; omega)]; exact q
  refine fin _ fun i n hi => ?_
  have hilt : i < names.length := (List.getElem?_eq_some_iff.mp hi).1
  rcases hx with h | ⟨_, d, rfl, h5, h6⟩
  · rw [addDef_skip fun p hp => ?_]
    · rw [lookup_zip_nodup hn i n hi, List.getElem?_append_left (by omega)]
    · refine lookup_zip_some.mpr ?_
      rw [h, List.take_length]
      exact List.mem_of_mem_drop (List.of_mem_zip hp).1
  · have hDl' : Dl = List.replicate d Value.none := by rw [← hDl]; simp
    have e1 : Dl.drop (Dl.length - names.length) = List.replicate d Value.none := by rw [hDl', List.length_replicate, Nat.sub_eq_zero_of_le h5, List.drop_zero]
    rw [e1, List.length_replicate]
    have e2 : (names.drop (names.length - d)).zip (List.replicate d Value.none) = (names.drop (names.length - d)).map fun n => (n, Value.none) := by
      exact zip_none _ _ (by rw [List.length_drop]; omega)
    rw [e2]
    have e3 : names.drop (names.length - d) = (names.drop (names.length - d)).take (xs.length - (names.length - d)) ++ names.drop xs.length := by
      conv => lhs; rw [← List.take_append_drop (xs.length - (names.length - d)) (names.drop (names.length - d))]
      rw [List.drop_drop, show names.length - d + (xs.length - (names.length - d)) = xs.length by omega]
    have e4 : (((names.drop (names.length - d)).take (xs.length - (names.length - d))).map fun n => (n, Value.none)).foldl addDef (names.zip xs) = names.zip xs := addDef_skip fun p hp => by
      obtain ⟨m, hm, rfl⟩ := List.mem_map.mp hp
      refine lookup_zip_some.mpr ?_
      rw [← List.drop_take] at hm
      exact List.mem_of_mem_drop hm
    rw [e3, List.map_append, List.foldl_append, e4, addDef_all (hn.sublist (List.drop_sublist _ _)) fun m hm => ?_]
    · rw [lookup_append]
      by_cases hlt : i < xs.length
      · rw [lookup_zip_nodup hn i n hi, List.getElem?_append_left hlt, List.getElem?_eq_getElem hlt]; rfl
      · have : List.lookup n (names.zip xs) = none := by rw [lookup_zip_nodup hn i n hi]; exact List.getElem?_eq_none (by omega)
        rw [this, List.getElem?_append_right (by omega)]
        have hm : n ∈ names.drop xs.length := List.mem_of_getElem? (i := i - xs.length) (by rw [List.getElem?_drop, show xs.length + (i - xs.length) = i by omega]; exact hi)
        have hs := lookup_map_none.mpr hm
        obtain ⟨y, hy⟩ := Option.isSome_iff_exists.mp hs
        have hy' : y = Value.none := by
          have := mem_of_lookup hy
          obtain ⟨m, _, e⟩ := List.mem_map.mp this
          cases e; rfl
        rw [hy, hy', List.getElem?_replicate, if_pos (by omega)]; rfl
    · cases e : List.lookup m (names.zip xs) with
      | none => rfl
      | some y =>
        have := lookup_zip_some.mp (by rw [e]; rfl : (List.lookup m (names.zip xs)).isSome = true)
        have hdis := hn
        rw [← List.take_append_drop xs.length names, List.nodup_append] at hdis
        exact absurd rfl (hdis.2.2 m this m hm)
end Mux
namespace Mux
open PySem PySem.W

open Classical in
noncomputable def TT.putP (T : TT) (F : Addr → Prop) : TT := fun a => if F a then some .priv else T a
theorem TT.putP_in {T : TT} {F : Addr → Prop} {a : Addr} (h : F a) : T.putP F a = some .priv := if_pos h
theorem TT.putP_out {T : TT} {F : Addr → Prop} {a : Addr} (h : ¬ F a) : T.putP F a = T a := if_neg h

theorem Rp.newPrivs {g : Glb} {h h' : Heap} {T : TT} {s : St} {F : Addr → Prop} (R : Rp g h T s) (hF : ∀ a, F a → h.objs.size ≤ a ∧ ∃ o, h'.get? a = some o) (k : ∀ b o, h.get? b = some o → h'.get? b = some o) :
    Rp g h' (T.putP F) s ∧ Evo F0 h T h' (T.putP F) := by
  have fresh : ∀ b, h.objs.size ≤ b → h.get? b = none := fun b hb => by
    cases q : h.get? b with
    | none => rfl
    | some o => exact absurd (Heap.lt_size q) (Nat.not_lt.mpr hb)
  have old : ∀ {b r}, T b = some r → T.putP F b = some r := fun {b r} x => by
    by_cases q : F b
    · rw [R.new (hF b q).1] at x; cases x
    · rw [TT.putP_out q]; exact x
  have back : ∀ {b r}, T.putP F b = some r → r ≠ .priv → T b = some r := fun {b r} x y => by
    by_cases q : F b
    · rw [TT.putP_in q] at x; exact absurd (Option.some.inj x).symm y
    · rwa [TT.putP_out q] at x
  have e : Evo F0 h T h' (T.putP F) := ⟨fun a r x => old x, fun a x y => by
    by_cases q : F a
    · exact fresh a (hF a q).1
    · rw [TT.putP_out q] at y; exact absurd x y, fun a o x _ _ => k a o x⟩
  have hg : ∀ {b ρ}, T b = some ρ → h'.get? b = h.get? b := fun x => by obtain ⟨o, ho⟩ := R.live _ _ x; rw [ho]; exact k _ _ ho
  refine ⟨R.change fp0 e (fun b c n x y => absurd (back x nofun) y) (fun b c n x => .inl ⟨back x nofun, rfl, hg (back x nofun)⟩) (fun b n x => .inl ⟨back x nofun, rfl, hg (back x nofun)⟩) (fun b n x => .inl ⟨back x nofun, rfl, hg (back x nofun)⟩)
    (fun b n x => .inl ⟨back x nofun, rfl, hg (back x nofun)⟩) (fun a b r x y z => R.inj _ _ _ (back x z) (back y z) z) (fun b r x y => ?_) (fun b r x => ?_), e⟩
  · by_cases q : F b
    · exact R.low (hF b q).1
    · rw [TT.putP_out q, y] at x; cases x
  · by_cases q : F b
    · exact (hF b q).2
    · rw [TT.putP_out q] at x
      obtain ⟨o, ho⟩ := R.live b r x; exact ⟨o, k _ _ ho⟩

/-- changes to what is new are none -/
theorem Evo.absorb {F : Addr → Prop} {h h1 h2 : Heap} {T T1 T2 : TT} (e1 : Evo F0 h T h1 T1) (k : ∀ b o, h.get? b = some o → h1.get? b = some o) (hF : ∀ a, F a → h.get? a = none) (e : Evo F h1 T1 h2 T2) : Evo F0 h T h2 T2 := by
  refine ⟨fun a r x => e.role a r (e1.role a r x), fun a ha hn => ?_, fun a o ho hp _ => ?_⟩
  · cases hT : T1 a with
    | some r => exact e1.fresh a ha (by rw [hT]; exact nofun)
    | none =>
      have h1' := e.fresh a hT hn
      cases hg : h.get? a with
      | none => rfl
      | some o => rw [k a o hg] at h1'; cases h1'
  · refine e.keep a o (k a o ho) (fun r hr => ?_) fun hf => by rw [hF a hf] at ho; cases ho
    cases hT : T a with
    | some r' => have := e1.role a r' hT; rw [hr] at this; cases this; exact hp _ hT
    | none => have := e1.fresh a hT (by rw [hr]; exact nofun); rw [ho] at this; cases this

/-! what a new frame's names hold -/
theorem bindL_out {kk : Str → Option NameKind} {n : Str} : ∀ {names : List Str} {ys : List Value} {m : Str → Option Value}, n ∉ names → bindL kk (names.zip ys) m n = m n
  | [], ys, m, _ => by simp [bindL]
  | x :: r, [], m, _ => by simp [bindL]
  | x :: r, y :: ys, m, h => by
    simp only [List.mem_cons, not_or] at h
    rw [List.zip_cons_cons]
    unfold bindL
    rw [bindL_out h.2]
    split
    · exact if_neg h.1
    · rfl
theorem bindC_out {kk : Str → Option NameKind} {n : Str} : ∀ {names : List Str} {ys : List Value} {m : Str → Option Value}, n ∉ names → bindC kk (names.zip ys) m n = m n
  | [], ys, m, _ => by simp [bindC]
  | x :: r, [], m, _ => by simp [bindC]
  | x :: r, y :: ys, m, h => by
    simp only [List.mem_cons, not_or] at h
    rw [List.zip_cons_cons]
    unfold bindC
    rw [bindC_out h.2]
    split
    · rfl
    · exact if_neg h.1
theorem bindL_in {kk : Str → Option NameKind} {n : Str} {y : Value} (hk : kk n = some .local) : ∀ {names : List Str} {ys : List Value} {m : Str → Option Value} {i : Nat}, names.Nodup → names[i]? = some n → ys[i]? = some y → bindL kk (names.zip ys) m n = some y
  | [], ys, m, i, _, h, _ => by simp at h
  | x :: r, [], m, i, _, _, h => by simp at h
  | x :: r, z :: ys, m, 0, hn, h1, h2 => by
    simp only [List.nodup_cons] at hn
    simp at h1 h2; subst h1 h2
    rw [List.zip_cons_cons]; unfold bindL
    rw [bindL_out hn.1, if_pos hk, if_pos rfl]
  | x :: r, z :: ys, m, i + 1, hn, h1, h2 => by
    simp only [List.nodup_cons] at hn
    rw [List.zip_cons_cons]; unfold bindL
    exact bindL_in hk hn.2 (by simpa using h1) (by simpa using h2)
theorem bindC_in {kk : Str → Option NameKind} {n : Str} {y : Value} (hk : kk n = some .cell) : ∀ {names : List Str} {ys : List Value} {m : Str → Option Value} {i : Nat}, names.Nodup → names[i]? = some n → ys[i]? = some y → bindC kk (names.zip ys) m n = some y
  | [], ys, m, i, _, h, _ => by simp at h
  | x :: r, [], m, i, _, _, h => by simp at h
  | x :: r, z :: ys, m, 0, hn, h1, h2 => by
    simp only [List.nodup_cons] at hn
    simp at h1 h2; subst h1 h2
    rw [List.zip_cons_cons]; unfold bindC
    rw [bindC_out hn.1, if_neg (by rw [hk]; decide), if_pos rfl]
  | x :: r, z :: ys, m, i + 1, hn, h1, h2 => by
    simp only [List.nodup_cons] at hn
    rw [List.zip_cons_cons]; unfold bindC
    exact bindC_in hk hn.2 (by simpa using h1) (by simpa using h2)

theorem cellsFrom_has {x : Str} : ∀ {names : List (Str × NameKind)} {n : Nat} {acc : List (Str × Addr)}, ((acc.lookup x).isSome = true ∨ names.lookup x = some .cell) → ((cellsFrom n names acc).lookup x).isSome = true
  | [], n, acc, h => by
    rcases h with h | h
    · exact h
    · simp at h
  | (y, k) :: r, n, acc, h => by
    unfold cellsFrom
    split
    · rename_i hk
      refine cellsFrom_has ?_
      by_cases q : x == y
      · left; rw [List.lookup_cons, q]; rfl
      · rcases h with h | h
        · left; rw [List.lookup_cons]; simp only [q]; exact h
        · right; rw [List.lookup_cons] at h; simp only [q] at h; exact h
    · rename_i hk
      refine cellsFrom_has ?_
      rcases h with h | h
      · exact .inl h
      · rw [List.lookup_cons] at h
        by_cases q : x == y
        · simp only [q] at h; cases h; exact absurd rfl hk
        · simp only [q] at h; exact .inr h

theorem params_names {ks : Ks} : ∀ {names : List Str} {params : List Nat}, mapO (cVar ks) names = some params → names = params.map (ofCode nm) ∧ (∀ n ∈ names, isLoc ks n = true) ∧ ∀ k ∈ params, k < nm.length
  | [], ps, h => by cases mapO_nil h; exact ⟨rfl, nofun, nofun⟩
  | x :: r, ps, h => by
    obtain ⟨k, ps', h1, h2, rfl⟩ := mapO_cons h
    obtain ⟨a, b, c⟩ := cVar_spec h1
    obtain ⟨d, e, f⟩ := params_names h2
    refine ⟨by rw [List.map_cons, c, ← d], fun n hn => ?_, fun j hj => ?_⟩
    · rcases List.mem_cons.mp hn with rfl | hn
      · exact a
      · exact e n hn
    · rcases List.mem_cons.mp hj with rfl | hj
      · exact b
      · exact f j hj
theorem lget_zip {x : Nat} {v : V} : ∀ {ps : List Nat} {vs : List V}, lget x (ps.zip vs) = some v → ∃ i : Nat, ps[i]? = some x ∧ vs[i]? = some v
  | [], vs, h => by cases h
  | p :: ps, [], h => by cases h
  | p :: ps, w :: vs, h => by
    rw [List.zip_cons_cons, lget_cons] at h
    split at h
    · rename_i q; subst q; cases h; exact ⟨0, rfl, rfl⟩
    · obtain ⟨i, a, b⟩ := lget_zip h; exact ⟨i + 1, by simpa using a, by simpa using b⟩
theorem VRs.nones {h : Heap} {T : TT} : ∀ k : Nat, VRs h T (List.replicate k .none) (List.replicate k .none)
  | 0 => trivial
  | k + 1 => ⟨rfl, VRs.nones k⟩

section
variable {g : Glb} {K : Frag} {fa : Nat → Addr} {A : Around} {E : Value → Shared → Prop} {s : Shared} {T : TT} {st st' : St} {v : V} {n : Nat} {r : Rec} {Q : Value → Shared → Prop}

/-- a body, statement by statement -/
theorem exB_ok (S : Snd g n r) (hA : Rm A n) {m k : Nat} {env : Env} {ks : Ks} {fl : Fl} {l' : Loc} : ∀ {xs : List Stmt} {ps : List PS} {l : Loc} {st : St} {s : Shared} {T : TT} {Q : Flow → Shared → Prop}, mapO (cS m k ks) xs = some ps → FrOk env ks s.heap T l → Rp g s.heap T st →
    exB r ps l st = some (fl, l', st') → PstS g s T env ks fl l' st' Q → wpAny g.M A (execs xs env) Q E s
  | [], ps, l, st, s, T, Q, hc, X, R, he, q => by
    cases mapO_nil hc
    cases he
    exact wpAny_execs_nil (q s.heap s.toks T .next .refl R X rfl)
  | x :: xs, ps, l, st, s, T, Q, hc, X, R, he, q => by
    obtain ⟨p, ps', h1, h2, rfl⟩ := mapO_cons hc
    simp only [exB] at he
    refine wpAny_execs_cons ?_
    split at he
    · rename_i l1 s1 e1
      refine S.S h1 X hA R e1 fun h' tk T' f e' R' X' hf => ?_
      cases hf
      exact exB_ok S hA h2 X' R' he fun h'' tk'' T'' f e'' R'' X'' hf'' => q h'' tk'' T'' f (e'.trans X.fp e'') R'' X'' hf''
    · rename_i hne
      refine S.S h1 X hA R he fun h' tk T' f e' R' X' hf => ?_
      have := q h' tk T' f e' R' X' hf
      cases fl with
      | next => exact absurd he (hne _ _)
      | ret v => obtain ⟨y, rfl, _⟩ := hf; exact this

theorem seqItems_ok {d : Value} {D : Option (Array Value)} (X : K.In s.heap) (h : dfltIn K d = some D) {M : Model} {E : Value → Shared → Prop} {Q : Option (Array Value) → Shared → Prop} (q : Q D s) : wpAny M A (seqItems? d) Q E s := by
  unfold dfltIn at h
  split at h
  · split at h
    · rename_i ho
      cases h
      exact wpAny_seqItems (X _ _ ho) rfl q
    · cases h
  · cases h; exact wpAny_pure q
  · cases h

theorem code_ok (G : GOk g K fa) (S : Snd g n r) (hA : A.handled = none) (hA2 : A.depth + 3 * n + 1 < 990) (hA3 : A.units + 20 * n + 103 < cLine) {i : Nat} {vs : List V} {xs : List Value} {R' : Result → Shared → Prop} (R : Rp g s.heap T st) (rv : VRs s.heap T vs xs) (he : callF g.P r i vs st = some (v, st'))
    (q : ∀ h' tk T' y, Evo F0 s.heap T h' T' → Rp g h' T' st' → VR h' T' v y → R' (.ok (.ret y)) { s with heap := h', toks := tk }) : codeAny g.M A (.call (.ref (fa i)) ⟨xs, []⟩) R' s := by
  unfold callF at he
  split at he
  · cases he
  · rename_i f hf
    obtain ⟨⟨oc, od, fd, sl, body, hlk, hbody, hgl, hbl, hclo, hcode, hcf, D, hD, hdef⟩, hnd⟩ := G.fn i f hf
    split at he
    · cases he
    · rename_i l0 hb
      unfold bindP at hb
      split at hb
      · rename_i hlen
        cases hb
        have XK := G.X.keeps R.keep
        have ho := R.keep _ _ (G.X _ _ hlk)
        unfold cFn at hcf
        split at hcf
        · rename_i hcond
          simp only [Bool.and_eq_true, Option.isNone_iff_eq_none, List.isEmpty_iff, decide_eq_true_eq, Bool.not_eq_true'] at hcond
          obtain ⟨⟨⟨⟨⟨⟨c1, c2⟩, c3⟩, c4⟩, c5⟩, c6⟩, c7⟩ := hcond
          split at hcf
          · rename_i ps bd hps hbd
            have hFn := Option.some.inj hcf
            obtain ⟨hnm, hloc, hlt⟩ := params_names hps
            have hp1 : f.params = ps := by rw [← hFn]
            have hp2 : f.body = bd := by rw [← hFn]
            have hnames : (fd.params.args.map (·.arg)).Nodup := by
              rw [hnm]; exact ofCode_nodup hlt (hp1 ▸ hnd)
            have hln : (fd.params.args.map (·.arg)).length = f.params.length := by rw [hnm, List.length_map, hp1]
            have hxl := rv.length
            refine codeAny_call_function (by show A.depth < 1000; omega) ho rfl c7 c6 hbody (codeRec_of XK hcode) ?_
            refine bind_ok (D := D) c1 c3 c2 c4 hnames (fun q => seqItems_ok XK hD q) ?_ ?_
            · rcases hdef with hd | ⟨hd, hd2⟩
              · left; omega
              · right; exact ⟨by omega, f.defs, hd, by omega, by omega⟩
            rw [hclo]
            have hys : (xs ++ List.replicate ((fd.params.args.map (·.arg)).length - xs.length) Value.none).length = (fd.params.args.map (·.arg)).length := by rw [List.length_append, List.length_replicate]; omega
            generalize hyy : xs ++ List.replicate ((fd.params.args.map (·.arg)).length - xs.length) Value.none = ys at hys
            have rys : VRs s.heap T (vs ++ List.replicate (f.params.length - vs.length) V.none) ys := by
              rw [← hyy, hln, ← hxl]; exact rv.append (VRs.nones _)
            refine wpAny_newFunctionEnv_cells c5 (fun x hx => ?_) (fun env henv s' x => ⟨G.nolimit.keeps fun b o e => x.toInCall.keep b o (R.keep b o e), codeAny_func ?_⟩)
            · have hm := (List.of_mem_zip (show (x.1, x.2) ∈ _ from hx)).1
              rcases isLoc_cases (hloc _ hm) with a | a
              · exact .inl a
              · exact .inr ⟨a, cellsFrom_has (.inr a)⟩
            · obtain ⟨h1, tk1, rfl⟩ := x.toInCall.same
              have hk1 : ∀ b o, s.heap.get? b = some o → h1.get? b = some o := x.toInCall.keep
              have hL : env.locals = s.heap.objs.size := by rw [henv]; rfl
              have hsc : env.scope = fd.scope := by rw [henv]; rfl
              have hce : env.cells = cellsFrom (s.heap.objs.size + 1) fd.scope.names [] := by rw [henv]; rfl
              let F : Addr → Prop := fun a => a = env.locals ∨ ∃ y, fd.scope.names.lookup y = some .cell ∧ env.cells.lookup y = some a
              obtain ⟨R1, e1⟩ := R.newPrivs (F := F) (h' := h1) (fun a ha => by
                rcases ha with rfl | ⟨y, _, hy⟩
                · rw [hL]; obtain ⟨o, _, _, ho, _⟩ := x.toInCall.ns; exact ⟨Nat.le_refl _, o, hL ▸ ho⟩
                · obtain ⟨o, ho, _⟩ := x.cell y a hy
                  have := x.above y a (mem_of_lookup hy)
                  exact ⟨Nat.le_of_lt (hL ▸ this), o, ho⟩) hk1
              have rys1 : VRs h1 (T.putP F) (vs ++ List.replicate (f.params.length - vs.length) V.none) ys := rys.pass e1
              have X1 : FrOk env fd.scope.names h1 (T.putP F) (f.params.zip (vs ++ List.replicate (f.params.length - vs.length) V.none)) := by
                refine ⟨by rw [hsc]; exact c5, by rw [hsc], by rw [henv]; exact hgl, by rw [henv]; exact hbl, TT.putP_in (.inl rfl), ⟨_, x.toInCall.ns, fun k w h2 h3 => ?_⟩, fun y hy => ?_, fun y y' c h2 h3 h4 h5 => name_of_addr x.apart (mem_of_lookup h4) (mem_of_lookup h5)⟩
                · obtain ⟨j, h4, h5⟩ := lget_zip h2
                  obtain ⟨z, h6, h7⟩ := rys1.get h5
                  have h8 : (fd.params.args.map (·.arg))[j]? = some (ofCode nm k) := by rw [hnm, List.getElem?_map, ← hp1, h4]; rfl
                  exact ⟨z, bindL_in (by unfold Env.kindOf; rw [hsc]; exact h3) hnames h8 h6, h7⟩
                · obtain ⟨c, hc⟩ := Option.isSome_iff_exists.mp (cellsFrom_has (n := s.heap.objs.size + 1) (acc := []) (.inr hy))
                  rw [← hce] at hc
                  refine ⟨c, hc, TT.putP_in (.inr ⟨y, hy, hc⟩), ?_, _, x.cell y c hc, fun k w h2 h3 h4 => ?_⟩
                  · exact Nat.ne_of_gt (x.above y c (mem_of_lookup hc))
                  · subst h2
                    obtain ⟨j, h5, h6⟩ := lget_zip h4
                    obtain ⟨z, h7, h8⟩ := rys1.get h6
                    have h9 : (fd.params.args.map (·.arg))[j]? = some (ofCode nm k) := by rw [hnm, List.getElem?_map, ← hp1, h5]; rfl
                    exact ⟨z, bindC_in (by unfold Env.kindOf; rw [hsc]; exact hy) hnames h9 h7, h8⟩
              have fin : ∀ {fl l2 s2 w} , exB r f.body (f.params.zip (vs ++ List.replicate (f.params.length - vs.length) V.none)) st = some (fl, l2, s2) → s2 = st' → (∀ h T' fv, FlR h T' fl fv → VR h T' v (match fv with | .ret v => v | _ => .none)) →
                  wpAny g.M (A.deeper env) (execs body env) (fun f s' => R' (.ok (.ret (match f with | .ret v => v | _ => .none))) s') w { s with heap := h1, toks := tk1 } := fun {fl l2 s2 w} he2 hs2 hfl => by
                subst hs2
                rw [hp2] at he2
                refine exB_ok (s := { s with heap := h1, toks := tk1 }) S (n := n) (A := A.deeper env) ⟨hA, by show A.depth + 1 + 3 * n < 990; omega, by show A.units + 3 + 20 * n + 100 < cLine; omega⟩ hbd X1 R1 he2 fun h' tk T' fv e' R' X' hf => ?_
                refine q h' tk T' _ (e1.absorb hk1 (fun a hf => ?_) e') R' (hfl _ _ _ hf)
                cases ho : s.heap.get? a with
                | none => rfl
                | some o =>
                  rcases hf with rfl | ⟨y, _, hy⟩
                  · rw [hL] at ho; exact absurd (Heap.lt_size ho) (Nat.lt_irrefl _)
                  · have h9 := x.above y a (mem_of_lookup hy); rw [hL] at h9; exact absurd (Nat.lt_trans h9 (Heap.lt_size ho)) (Nat.lt_irrefl _)
              split at he
              · rename_i l2 s2 he2
                cases he
                exact fin he2 rfl fun h T' fv hf => by cases hf; rfl
              · rename_i w l2 s2 he2
                cases he
                exact fin he2 rfl fun h T' fv hf => by obtain ⟨y, rfl, hy⟩ := hf; exact hy
              · cases he
          · cases hcf
        · cases hcf
      · cases hb
end
end Mux
namespace Mux
open PySem PySem.W

theorem keep_of_makes {K : Frag} {C : Addr} (h : makesIn K C = true) : keepIn K (.ref C) = true := by
  unfold makesIn at h
  split at h
  · rename_i ho
    simp only [Bool.and_eq_true] at h
    unfold keepIn
    dsimp only
    rw [ho]
    exact h.1.2
  · cases h
theorem Rm.h {A : Around} {n : Nat} (r : Rm A n) : A.handled = none := r.handled

section
variable {g : Glb} {K : Frag} {fa : Nat → Addr} {A : Around} {E : Value → Shared → Prop} {s : Shared} {T : TT} {st st' : St} {v : V} {env : Env} {ks : Ks} {l : Loc} {n m : Nat} {r : Rec} {Q : Value → Shared → Prop}

theorem fcall_ok (G : GOk g K fa) (S : Snd g n r) (hA : Rm A (n + 1)) {i : Nat} {vs : List V} {xs : List Value} (R : Rp g s.heap T st) (rv : VRs s.heap T vs xs) (he : callF g.P r i vs st = some (v, st')) (q : Pst g s T st' v Q) :
    wpAny g.M A (call (.ref (fa i)) xs) Q E s := by
  refine wpAny_call (code_ok G S hA.handled (by have := hA.depth; omega) (by have := hA.units; omega) R rv he fun h' tk T' y e' R' ry => ?_)
  exact q h' tk T' y e' R' ry

theorem fn_keeps (G : GOk g K fa) {i : Nat} {f : Fn} (hf : g.P.fn i = some f) : ∀ h, (∀ b o, g.h₀.get? b = some o → h.get? b = some o) → ∃ k, (k = Keeper.frame ∨ k = Keeper.machine ∨ k = Keeper.boundFrame) ∧ Looks g.M h (keeperOf (.ref (fa i))) k := by
  intro h hk
  obtain ⟨⟨oc, od, fd, sl, body, hlk, _⟩, _⟩ := G.fn i f hf
  exact keeps_K (by unfold keepIn; dsimp only; rw [hlk]) h (G.X.keeps hk)
theorem callF_fn {P : Prog} {i : Nat} {vs : List V} (he : callF P r i vs st = some (v, st')) : ∃ f, P.fn i = some f := by
  unfold callF at he
  split at he
  · cases he
  · exact ⟨_, by assumption⟩

theorem call_eok (G : GOk g K fa) (S : Snd g n r) (hA : Rm A (n + 1)) {x : Str} {es : List Expr} {ps : List PE} {i : Nat} {p1 pos : Pos} (X : FrOk env ks s.heap T l) (R : Rp g s.heap T st) (hx : isGlob ks x = true) (hi : codeIn fnm x = some i) (hs : es.any isStar = false) (hc : mapO (cE m ks) es = some ps)
    (he : stepE g.P r (.call i ps) l st = some (v, st')) (q : Pst g s T st' v Q) : wpAny g.M A (eval (.Call (.Name x p1) es [] pos) env) Q E s := by
  simp only [stepE] at he
  split at he
  · rename_i vs st1 e1
    obtain ⟨f, hf⟩ := callF_fn he
    refine wpAny_Call_Name_kw (glob_fn G hx X R hi ?_)
    refine callW_ok S (hA.less (Nat.le_succ _)) hs hc X R e1 (fn_keeps G hf) fun h' tk T' xs e' R' rv => ?_
    exact fcall_ok G S hA R' rv he (q.after e')
  · cases he

theorem new_eok (G : GOk g K fa) (S : Snd g n r) (hA : Rm A (n + 1)) {x : Str} {es : List Expr} {ps : List PE} {c : Nat} {p1 pos : Pos} (X : FrOk env ks s.heap T l) (R : Rp g s.heap T st) (hx : isGlob ks x = true) (hi : codeIn cnm x = some c) (hs : es.any isStar = false) (hc : mapO (cE m ks) es = some ps)
    (he : stepE g.P r (.new c ps) l st = some (v, st')) (q : Pst g s T st' v Q) : wpAny g.M A (eval (.Call (.Name x p1) es [] pos) env) Q E s := by
  simp only [stepE] at he
  split at he
  · rename_i vs st1 e1
    unfold newF at he
    split at he
    · rename_i hc4
      split at he
      · cases he
      · rename_i f hf
        split at he
        · rename_i s2 e2
          cases he
          have Y := G.C c hc4
          obtain ⟨hfi, hty⟩ := Y.init f hf
          refine wpAny_Call_Name_kw (glob_cls G hx X R hi ?_)
          refine callW_ok S (hA.less (Nat.le_succ _)) hs hc X R e1 (fun h hk => keeps_K (keep_of_makes Y.makes) h (G.X.keeps hk)) fun h' tk T' xs e' R' rv => ?_
          rw [List.nil_append]
          refine wpAny_call ?_
          have XK := G.X.keeps R'.keep
          have k1 := push_keeps h' emptyDict
          have k2 : ∀ b o, h'.get? b = some o → ((h'.push emptyDict).push (instObj (g.ca c) h'.objs.size)).get? b = some o := fun b o e => push_keeps _ _ b o (k1 b o e)
          have hx2 : ((h'.push emptyDict).push (instObj (g.ca c) h'.objs.size)).get? (h'.objs.size + 1) = some (instObj (g.ca c) h'.objs.size) := by
            have := Heap.get?_push_size (h'.push emptyDict) (o := instObj (g.ca c) h'.objs.size) rfl
            rwa [Heap.size_push] at this
          have hd2 : ((h'.push emptyDict).push (instObj (g.ca c) h'.objs.size)).get? h'.objs.size = some (dictOf [] 0) := push_keeps _ _ _ _ (Heap.get?_push_size h' (o := emptyDict) rfl)
          obtain ⟨R2, e2'⟩ := Rp.newInst (a := h'.objs.size + 1) (dx := h'.objs.size) hc4 R' (Nat.le_refl _) (Nat.le_succ _) (Nat.ne_of_lt (Nat.lt_succ_self _)) k2 hx2 hd2
          have hw : Code.weight (.builtin "type.__call__" ⟨.ref (g.ca c) :: xs, []⟩) = 1 := rfl
          have hu : Code.cUnits (.builtin "type.__call__" ⟨.ref (g.ca c) :: xs, []⟩) = 1 := rfl
          refine make_core (h := h') (t := tk) (makes_of XK Y.makes) (looks_findIn XK hfi) (fun self => bind_fn XK self hty) (.inl rfl) ?_
          refine code_ok (s := { s with heap := _, toks := tk }) G S (vs := .obj c (st1.objs c).length :: vs) (xs := .ref (h'.objs.size + 1) :: xs) (A := A.under (.builtin "type.__call__" ⟨.ref (g.ca c) :: xs, []⟩)) hA.handled ?_ ?_ R2 ⟨⟨_, rfl, TT.put_same _ _ _⟩, rv.pass e2'⟩ e2 fun h3 tk3 T3 y e3 R3 ry => ?_
          · show A.depth + Code.weight _ + 3 * n + 1 < 990
            rw [hw]; have := hA.depth; omega
          · show A.units + Code.cUnits _ + 20 * n + 103 < cLine
            rw [hu]; have := hA.units; omega
          · cases ry
            exact ⟨rfl, q h3 tk3 T3 _ ((e'.trans fp0 e2').trans fp0 e3) R3 ⟨_, rfl, e3.role _ _ (TT.put_same _ _ _)⟩⟩
        · cases he
    · cases he
  · cases he

/-! methods -/
theorem methodForm {es : List Expr} {pos : Pos} (hs : es.any isStar = false) (hl : es.length < 30) : methodCallForm (es.length + ([] : List Keyword).length) (backTo pos (starEach es env)) (backToKw pos (keywordEach [] env)) = true := by
  have hp := backTo_plain (pos := pos) (starEach_plain (env := env) hs)
  unfold methodCallForm
  have h1 : (backTo pos (starEach es env)).all (fun x => !x.1) = true := by
    rw [List.all_eq_true]
    intro x hx
    rw [List.any_eq_false] at hp
    simpa using hp x hx
  rw [h1]
  simp [backToKw, keywordEach, hl]
theorem meth_open {o : Expr} {x : Str} {apos pos : Pos} {es : List Expr} (hb : plainBase o = true) (hs : es.any isStar = false) (hl : es.length < 30) (hline : (apos.endLine == pos.line) = true)
    (h : wpAny g.M A (eval o env) (fun ov s₁ => wpAny g.M A (getMethod ov x (do return (← importBound o env).getD true)) (fun f s₂ => wpAny g.M A (callWith pos f.1 f.2 (backTo pos (starEach es env)) (backToKw pos (keywordEach [] env))) Q E s₂) E s₁) E s) :
    wpAny g.M A (eval (.Call (.Attribute o x apos) es [] pos) env) Q E s := by
  rw [arm_eval_Call, attributeBase_plain hb]
  refine wpAny_bind (wpAny_mono h (fun ov s₁ h₁ => wpAny_bind (wpAny_standAt ?_)) fun _ _ e => e)
  have hpos : methodCallPos true o env apos pos = pure pos := by unfold methodCallPos; simp [hline]
  unfold methodCall
  rw [methodForm hs hl]
  refine wpAny_bind (wpAny_holding (wpAny_mono h₁ (fun f s₂ h₂ => ?_) fun _ _ e => e))
  exact wpAny_bind (wpAny_of_eq hpos h₂)

theorem unm_spec {x : Str} {c : Nat} (h : codeIn unm x = some c) : ofCode unm c = x := (codeIn_spec h).2
theorem meth_eok (G : GOk g K fa) (S : Snd g n r) (hA : Rm A (n + 1)) {o : Expr} {x : Str} {es : List Expr} {p : PE} {ps : List PE} {c : Nat} {apos pos : Pos} (X : FrOk env ks s.heap T l) (R : Rp g s.heap T st) (hb : plainBase o = true) (hl : es.length < 30) (hline : (apos.endLine == pos.line) = true)
    (hi : codeIn unm x = some c) (ho : cE m ks o = some p) (hs : es.any isStar = false) (hc : mapO (cE m ks) es = some ps) (he : stepE g.P r (.meth p c ps) l st = some (v, st')) (q : Pst g s T st' v Q) :
    wpAny g.M A (eval (.Call (.Attribute o x apos) es [] pos) env) Q E s := by
  obtain rfl := unm_spec hi
  simp only [stepE] at he
  split at he
  · rename_i k j st1 e1
    split at he
    · rename_i f hf
      split at he
      · rename_i vs st2 e2
        obtain ⟨fn, hfn⟩ := callF_fn he
        refine meth_open hb hs hl hline (S.E ho X (hA.less (Nat.le_succ _)) R e1 fun h' tk T' y e' R' ry => ?_)
        obtain ⟨a, rfl, hT⟩ := ry
        obtain ⟨hk, dx, fs, es', kk, b1, b2, b3, b4, b5, I⟩ := instAt_of (s := { s with heap := h', toks := tk }) R' hT
        have Y := G.C k hk
        obtain ⟨hm1, hm2, hm3⟩ := Y.meth c f hf
        have hga := plainGet_of Y.get
        have hgl : getL (ofCode unm c) es' = some none := getL_none b4 hm3
        refine method_fn (G.X.keeps R'.keep) I hga.1 hga.2 hm1 (beq_iff_eq.mp hm2) (by show (lookIn _ (dictOf es' kk)).map _ = _; rw [lookIn_dict, hgl]; rfl) ?_
        refine callW_ok S (hA.less (Nat.le_succ _)) hs hc (X.pass e') R' e2 (fn_keeps G hfn) fun h'' tk'' T'' xs e'' R'' rv => ?_
        exact fcall_ok G S hA R'' (vs := .obj k j :: vs) ⟨⟨a, rfl, e''.role _ _ hT⟩, rv⟩ he ((q.after e').after e'')
      · cases he
    · cases he
  · cases he

theorem cBm_spec {x : Str} {b : BM} (h : cBm x = some b) : x = bmN b := by
  unfold cBm at h
  repeat (first | (split at h; (rename_i q; cases h; exact q)) | (cases h; done))
theorem bm_eok (G : GOk g K fa) (S : Snd g n r) (hA : Rm A (n + 1)) {o : Expr} {x : Str} {es : List Expr} {p : PE} {ps : List PE} {b : BM} {apos pos : Pos} (X : FrOk env ks s.heap T l) (R : Rp g s.heap T st) (hb : plainBase o = true) (hl : es.length < 30) (hline : (apos.endLine == pos.line) = true)
    (hi : cBm x = some b) (ho : cE m ks o = some p) (hs : es.any isStar = false) (hc : mapO (cE m ks) es = some ps) (he : stepE g.P r (.bm b p ps) l st = some (v, st')) (q : Pst g s T st' v Q) :
    wpAny g.M A (eval (.Call (.Attribute o x apos) es [] pos) env) Q E s := by
  obtain rfl := cBm_spec hi
  simp only [stepE] at he
  split at he
  · rename_i w st1 e1
    split at he
    · rename_i vs st2 e2
      refine meth_open hb hs hl hline (S.E ho X (hA.less (Nat.le_succ _)) R e1 fun h' tk T' y e' R' ry => ?_)
      obtain ⟨t1, t2⟩ := bm_recv (s := { s with heap := h', toks := tk }) R' ry he
      obtain ⟨s1, s2, s3⟩ := bm_slot b
      refine getMethod_builtin (s := { s with heap := h', toks := tk }) t1 s1 s2 s3 t2 ?_
      refine callW_ok S (hA.less (Nat.le_succ _)) hs hc (X.pass e') R' e2 (fun h _ => keeps_any (f := .builtin _) (fun _ q => by cases q) _ h) fun h'' tk'' T'' xs e'' R'' rv => ?_
      exact bmS_ok G.hb hA R'' (ry.pass e'') rv he ((q.after e').after e'')
    · cases he
  · cases he

/-! built-in functions -/
theorem cBf_spec {x : Str} {b : BF} (h : cBf x = some b) : bltV x = some (biV b) ∧ biMore b = [] := by
  unfold cBf at h
  repeat (first | (split at h; (rename_i q; cases h; subst q; exact ⟨by decide +kernel, rfl⟩)) | (cases h; done))
theorem biV_keeps (b : BF) : ∀ a, biV b ≠ .ref a := by cases b <;> exact nofun
theorem bi_eok (G : GOk g K fa) (S : Snd g n r) (hA : Rm A (n + 1)) {x : Str} {e : Expr} {p : PE} {b : BF} {p1 pos : Pos} (X : FrOk env ks s.heap T l) (R : Rp g s.heap T st) (hx : isGlob ks x = true) (hi : cBf x = some b) (hs : isStar e = false) (hc : cE m ks e = some p)
    (he : stepE g.P r (.bi b p) l st = some (v, st')) (q : Pst g s T st' v Q) : wpAny g.M A (eval (.Call (.Name x p1) [e] [] pos) env) Q E s := by
  obtain ⟨h1, h2⟩ := cBf_spec hi
  simp only [stepE] at he
  split at he
  · rename_i w st1 e1
    have hS : ([e] : List Expr).any isStar = false := by simp [hs]
    refine wpAny_Call_Name_kw (glob_blt G hx X R h1 ?_)
    refine callWith_of (P := fun _ => True) (by show ((backTo pos (starEach [e] env)).any (·.1) || false) = false; rw [backTo_plain (starEach_plain hS)]; rfl) (fun h _ => keeps_any (biV_keeps b) _ h) (evalArgs_ok (backTo_plain (starEach_plain hS)) ?_)
    refine wpAny_items_cons (S.E hc X (hA.less (Nat.le_succ _)) R e1 fun h' tk T' y e' R' ry => wpAny_items_nil ⟨trivial, ?_⟩) (starEach_cons hs)
    have := biS_ok (s := { s with heap := h', toks := tk }) (E := E) G.hb hA R' ry he (q.after e')
    rw [h2] at this
    exact this
  · cases he
theorem isb_eok (G : GOk g K fa) (S : Snd g n r) (hA : Rm A (n + 1)) {e : Expr} {p : PE} {p1 p2 pos : Pos} (X : FrOk env ks s.heap T l) (R : Rp g s.heap T st) (hx : isGlob ks ("isinstance" : Str) = true) (hx2 : isGlob ks ("bool" : Str) = true) (hs : isStar e = false) (hc : cE m ks e = some p)
    (he : stepE g.P r (.bi .isbool p) l st = some (v, st')) (q : Pst g s T st' v Q) : wpAny g.M A (eval (.Call (.Name ("isinstance" : Str) p1) [e, .Name ("bool" : Str) p2] [] pos) env) Q E s := by
  simp only [stepE] at he
  split at he
  · rename_i w st1 e1
    have hS : ([e, .Name ("bool" : Str) p2] : List Expr).any isStar = false := by rw [List.any_cons, hs]; rfl
    refine wpAny_Call_Name_kw (glob_blt G hx X R (y := .builtin "isinstance") (by decide +kernel) ?_)
    refine callWith_of (P := fun _ => True) (by show ((backTo pos (starEach [e, .Name ("bool" : Str) p2] env)).any (·.1) || false) = false; rw [backTo_plain (starEach_plain hS)]; rfl) (fun h _ => keeps_any (f := .builtin _) (fun _ q => by cases q) _ h) (evalArgs_ok (backTo_plain (starEach_plain hS)) ?_)
    refine wpAny_items_cons (S.E hc X (hA.less (Nat.le_succ _)) R e1 fun h' tk T' y e' R' ry => ?_) (starEach_cons hs)
    refine wpAny_items_cons (glob_blt G hx2 (X.pass e') R' (y := .type "bool") (by decide +kernel) (wpAny_items_nil ⟨trivial, ?_⟩))
    exact biS_ok (s := { s with heap := h', toks := tk }) (E := E) G.hb hA R' ry he (q.after e')
  · cases he
end
end Mux
namespace Mux
open PySem PySem.W

/-- the names that a target stores lie in F -/
def Own (F : Addr → Prop) (env : Env) (ks : Ks) (vars : List Nat) : Prop := F env.locals ∧ ∀ x ∈ vars, ∀ c, ks.lookup (ofCode nm x) = some .cell → env.cells.lookup (ofCode nm x) = some c → F c
theorem own_env {env : Env} {ks : Ks} {vars : List Nat} : Own (Fenv env ks) env ks vars := ⟨.inl rfl, fun x _ c h1 h2 => .inr ⟨_, h1, h2⟩⟩
theorem Own.sub {F : Addr → Prop} {env : Env} {ks : Ks} {vs ws : List Nat} (o : Own F env ks vs) (h : ∀ x ∈ ws, x ∈ vs) : Own F env ks ws := ⟨o.1, fun x hx => o.2 x (h x hx)⟩

def PstA (g : Glb) (F : Addr → Prop) (s : Shared) (T : TT) (env : Env) (ks : Ks) (l' : Loc) (st' : St) (Q : Unit → Shared → Prop) : Prop :=
  ∀ h' tk T', Evo F s.heap T h' T' → Rp g h' T' st' → FrOk env ks h' T' l' → Q () { s with heap := h', toks := tk }

theorem cTg_inv {f : Ks → Expr → Option PE} {ks : Ks} {t : Expr} {tg : Tg} (h : cTg f ks t = some tg) :
    (∃ x pos k, t = .Name x pos ∧ cVar ks x = some k ∧ tg = .var k) ∨ (∃ o a pos p c, t = .Attribute o a pos ∧ f ks o = some p ∧ code a = some c ∧ tg = .attr p c) ∨
    (∃ o i pos p q, t = .Subscript o i pos ∧ isSlice i = false ∧ f ks o = some p ∧ f ks i = some q ∧ tg = .idx p q) ∨ (∃ es i pos ps, t = .Tuple es i pos ∧ cTgs f ks es = some ps ∧ tg = .tup ps) := by
  cases t with
  | Name x pos =>
    simp only [cTg] at h
    obtain ⟨k, h1, h2⟩ := Option.map_eq_some_iff.mp h
    exact .inl ⟨x, pos, k, rfl, h1, h2.symm⟩
  | Attribute o a pos =>
    simp only [cTg] at h
    split at h
    · rename_i p c h1 h2
      cases h
      exact .inr (.inl ⟨o, a, pos, p, c, rfl, h1, h2, rfl⟩)
    · cases h
  | Subscript o i pos =>
    simp only [cTg] at h
    split at h
    · cases h
    · rename_i hs
      split at h
      · rename_i p q h1 h2
        cases h
        exact .inr (.inr (.inl ⟨o, i, pos, p, q, rfl, by simpa using hs, h1, h2, rfl⟩))
      · cases h
  | Tuple es i pos =>
    simp only [cTg] at h
    obtain ⟨ps, h1, h2⟩ := Option.map_eq_some_iff.mp h
    exact .inr (.inr (.inr ⟨es, i, pos, ps, rfl, h1, h2.symm⟩))
  | _ => simp [cTg] at h
theorem cTg_plain {f : Ks → Expr → Option PE} {ks : Ks} {t : Expr} {tg : Tg} (h : cTg f ks t = some tg) {env : Env} {rest : List Expr} : assignEach (t :: rest) env = (false, PySem.assign t env) :: assignEach rest env := by
  rcases cTg_inv h with ⟨_, _, _, rfl, _⟩ | ⟨_, _, _, _, _, rfl, _⟩ | ⟨_, _, _, _, _, rfl, _⟩ | ⟨_, _, _, _, rfl, _⟩ <;> rfl
theorem cTgs_cons {f : Ks → Expr → Option PE} {ks : Ks} {t : Expr} {ts : List Expr} {tgs : List Tg} (h : cTgs f ks (t :: ts) = some tgs) : ∃ p ps, cTg f ks t = some p ∧ cTgs f ks ts = some ps ∧ tgs = p :: ps := by
  simp only [cTgs] at h
  split at h
  · cases h; exact ⟨_, _, by assumption, by assumption, rfl⟩
  · cases h
theorem cTgs_len {f : Ks → Expr → Option PE} {ks : Ks} {env : Env} : ∀ {ts : List Expr} {tgs : List Tg}, cTgs f ks ts = some tgs → (assignEach ts env).length = tgs.length ∧ (assignEach ts env).findIdx? (·.1) = none
  | [], tgs, h => by simp only [cTgs] at h; cases h; exact ⟨rfl, rfl⟩
  | t :: ts, tgs, h => by
    obtain ⟨p, ps, h1, h2, rfl⟩ := cTgs_cons h
    obtain ⟨a, b⟩ := cTgs_len (ts := ts) h2
    rw [cTg_plain h1]
    refine ⟨by rw [List.length_cons, a, List.length_cons], ?_⟩
    rw [List.findIdx?_cons, b]; rfl

section
variable {g : Glb} {K : Frag} {fa : Nat → Addr} {A : Around} {E : Value → Shared → Prop} {env : Env} {ks : Ks} {n m : Nat} {r : Rec} {F : Addr → Prop}

theorem FP.live {h : Heap} {T : TT} {st : St} (p : FP F T) (R : Rp g h T st) : ∀ b, F b → ∃ o, h.get? b = some o := fun b hb => R.live b _ (p b hb)

mutual
theorem assign_ok (G : GOk g K fa) (S : Snd g n r) (hA : Rm A n) : ∀ (tg : Tg) {t : Expr} {l l' : Loc} {st st' : St} {v : V} {x : Value} {s : Shared} {T : TT} {Q : Unit → Shared → Prop}, cTg (cE m) ks t = some tg → Own F env ks tg.vars → FP F T → FrOk env ks s.heap T l → Rp g s.heap T st → VR s.heap T v x →
    Mux.assign g.P r tg v l st = some (l', st') → PstA g F s T env ks l' st' Q → wpAny g.M A (PySem.assign t env x) Q E s
  | .var k, t, l, l', st, st', v, x, s, T, Q, hc, ow, fp, X, R, rx, he, q => by
    rcases cTg_inv hc with ⟨y, pos, k', rfl, h1, h2⟩ | ⟨_, _, _, _, _, _, _, _, h⟩ | ⟨_, _, _, _, _, _, _, _, _, h⟩ | ⟨_, _, _, _, _, _, h⟩ <;> try cases h
    cases h2
    obtain ⟨h3, h4, rfl⟩ := cVar_spec h1
    simp only [Mux.assign] at he
    cases he
    rw [arm_assign_Name]
    exact wpAny_bind (wpAny_standAt (store_ok X R h3 h4 rx fp ow.1 (fun c a b => ow.2 k (by simp [Tg.vars]) c a b) (fp.live R) fun h' tk e R' X' => q h' tk T e R' X'))
  | .attr p a, t, l, l', st, st', v, x, s, T, Q, hc, ow, fp, X, R, rx, he, q => by
    rcases cTg_inv hc with ⟨_, _, _, _, _, h⟩ | ⟨o, at', pos, p', c, rfl, ho, ha, h2⟩ | ⟨_, _, _, _, _, _, _, _, _, h⟩ | ⟨_, _, _, _, _, _, h⟩ <;> try cases h
    cases h2
    · 
      obtain ⟨_, rfl⟩ := code_spec ha
      simp only [Mux.assign] at he
      split at he
      · rename_i y st1 e1
        obtain ⟨st2, h2, h3⟩ := Option.map_eq_some_iff.mp he
        cases h3
        rw [arm_assign_Attribute]
        refine wpAny_bind (wpAny_holding (S.E ho X hA R e1 fun h' tk T' z e' R' rz => ?_))
        refine wpAny_bind (wpAny_standAt (wpAny_bind (wpAny_holding ?_)))
        refine setA_ok (s := { s with heap := h', toks := tk }) G.X G.C R' rz (rx.pass e') h2 fun h'' tk'' T'' e'' R'' => ?_
        have e3 := e'.trans fp0 e''
        exact wpAny_release (q h'' tk'' T'' (e3.mono fun _ h => h.elim) R'' (X.pass e3))
      · cases he
  | .idx p i, t, l, l', st, st', v, x, s, T, Q, hc, ow, fp, X, R, rx, he, q => by
    rcases cTg_inv hc with ⟨_, _, _, _, _, h⟩ | ⟨_, _, _, _, _, _, _, _, h⟩ | ⟨o, ix, pos, p', q', rfl, hsl, ho, hi, h2⟩ | ⟨_, _, _, _, _, _, h⟩ <;> try cases h
    cases h2
    · · 
        simp only [Mux.assign] at he
        split at he
        · rename_i y st1 e1
          split at he
          · rename_i kk st2 e2
            obtain ⟨st3, h2, h3⟩ := Option.map_eq_some_iff.mp he
            cases h3
            rw [arm_assign_Subscript]
            refine wpAny_bind (wpAny_holding (S.E ho X hA R e1 fun h' tk T' z e' R' rz => ?_))
            refine wpAny_bind (wpAny_holding (S.E hi (X.pass e') hA R' e2 fun h'' tk'' T'' w e'' R'' rw' => ?_))
            refine wpAny_bind (wpAny_standAt (wpAny_bind (wpAny_holding ?_)))
            refine setI_ok (s := { s with heap := h'', toks := tk'' }) R'' (rz.pass e'') rw' ((rx.pass e').pass e'') h2 fun h3 tk3 T3 e3 R3 => ?_
            have e4 := (e'.trans fp0 e'').trans fp0 e3
            exact wpAny_release (q h3 tk3 T3 (e4.mono fun _ h => h.elim) R3 (X.pass e4))
          · cases he
        · cases he
  | .tup ts, t, l, l', st, st', v, x, s, T, Q, hc, ow, fp, X, R, rx, he, q => by
    rcases cTg_inv hc with ⟨_, _, _, _, _, h⟩ | ⟨_, _, _, _, _, _, _, _, h⟩ | ⟨_, _, _, _, _, _, _, _, _, h⟩ | ⟨es, i, pos, tgs, rfl, h1, h2⟩ <;> try cases h
    cases h2
    simp only [Mux.assign] at he
    split at he
    · rename_i vs
      split at he
      · rename_i hl
        obtain ⟨a, xs, rfl, hT, hI, rv⟩ := rx
        obtain ⟨c1, c2⟩ := cTgs_len (env := env) h1
        refine wpAny_assign_Tuple hA.handled hI (by rw [c1, List.size_toArray, ← rv.length]; exact beq_iff_eq.mp hl) c2 fun h' hx => ?_
        have k : ∀ b o, s.heap.get? b = some o → h'.get? b = some o := fun b o e => hx b o (Nat.ne_of_lt (Heap.lt_size e)) e
        have e1 : Evo F0 s.heap T h' T := .grow k
        exact assigns_ok (s := { s with heap := h' }) G S hA ts h1 (ow.sub fun x hx => by simpa [Tg.vars] using hx) fp (X.pass e1) (R.grow k) (rv.pass e1) he fun h'' tk T' e R' X' =>
          q h'' tk T' (Evo.trans (F := F) fp (e1.mono fun _ h => h.elim) e) R' X'
      · cases he
    · cases he
theorem assigns_ok (G : GOk g K fa) (S : Snd g n r) (hA : Rm A n) : ∀ (tgs : List Tg) {ts : List Expr} {l l' : Loc} {st st' : St} {vs : List V} {xs : List Value} {s : Shared} {T : TT} {Q : Unit → Shared → Prop}, cTgs (cE m) ks ts = some tgs → Own F env ks (Tg.varsL tgs) → FP F T → FrOk env ks s.heap T l → Rp g s.heap T st → VRs s.heap T vs xs →
    Mux.assigns g.P r tgs vs l st = some (l', st') → PstA g F s T env ks l' st' Q → wpAny g.M A (assignInOrder ((assignEach ts env).map (·.2)) xs) Q E s
  | [], ts, l, l', st, st', vs, xs, s, T, Q, hc, ow, fp, X, R, rx, he, q => by
    cases ts with
    | cons t ts => obtain ⟨_, _, _, _, h⟩ := cTgs_cons hc; cases h
    | nil =>
      cases vs with
      | cons _ _ => simp only [Mux.assigns] at he; cases he
      | nil =>
        simp only [Mux.assigns] at he
        cases he
        cases xs with
        | cons _ _ => exact rx.elim
        | nil => exact wpAny_pure (q s.heap s.toks T .refl R X)
  | tg :: tgs, ts, l, l', st, st', vs, xs, s, T, Q, hc, ow, fp, X, R, rx, he, q => by
    cases ts with
    | nil => simp only [cTgs] at hc; cases hc
    | cons t ts =>
      obtain ⟨p, ps, h1, h2, h3⟩ := cTgs_cons hc
      cases h3
      cases vs with
      | nil => simp only [Mux.assigns] at he; cases he
      | cons v vs =>
        cases xs with
        | nil => exact rx.elim
        | cons x xs =>
          simp only [Mux.assigns] at he
          split at he
          · rename_i l1 st1 e1
            rw [cTg_plain h1, List.map_cons]
            show wpAny _ _ (holding xs (PySem.assign t env x) >>= fun _ => assignInOrder _ xs) _ _ _
            refine wpAny_bind (wpAny_holding (assign_ok G S hA tg h1 (ow.sub fun y hy => by simp only [Tg.varsL, List.mem_append]; exact .inl hy) fp X R rx.1 e1 fun h' tk T' e R' X' => ?_))
            exact assigns_ok G S hA tgs h2 (ow.sub fun y hy => by simp only [Tg.varsL, List.mem_append]; exact .inr hy) (fp.evo e) X' R' (VRs.evo fp e vs rx.2) he fun h'' tk'' T'' e'' R'' X'' => q h'' tk'' T'' (e.trans fp e'') R'' X''
          · cases he
end
end
end Mux
namespace Mux
open PySem PySem.W

theorem Evo.absorbG {F G : Addr → Prop} {h h1 h2 : Heap} {T T1 T2 : TT} (e1 : Evo F0 h T h1 T1) (k : ∀ b o, h.get? b = some o → h1.get? b = some o) (hF : ∀ a, F a → G a ∨ h.get? a = none) (e : Evo F h1 T1 h2 T2) : Evo G h T h2 T2 := by
  refine ⟨fun a r x => e.role a r (e1.role a r x), fun a ha hn => ?_, fun a o ho hp hg => ?_⟩
  · cases hT : T1 a with
    | some r => exact e1.fresh a ha (by rw [hT]; exact nofun)
    | none =>
      have h1' := e.fresh a hT hn
      cases hg : h.get? a with
      | none => rfl
      | some o => rw [k a o hg] at h1'; cases h1'
  · refine e.keep a o (k a o ho) (fun r hr => ?_) fun hf => ?_
    · cases hT : T a with
      | some r' => have := e1.role a r' hT; rw [hr] at this; cases this; exact hp _ hT
      | none => have := e1.fresh a hT (by rw [hr]; exact nofun); rw [ho] at this; cases this
    · rcases hF a hf with q | q
      · exact hg q
      · rw [q] at ho; cases ho

theorem FrOk.weaken {env : Env} {ks : Ks} {h : Heap} {T : TT} {l l' : Loc} (X : FrOk env ks h T l) (e : ∀ k v, lget k l' = some v → lget k l = some v) : FrOk env ks h T l' where
  kind := X.kind
  names := X.names
  glob := X.glob
  blt := X.blt
  priv := X.priv
  ns := by obtain ⟨m, hn, hv⟩ := X.ns; exact ⟨m, hn, fun x v h1 h2 => hv x v (e _ _ h1) h2⟩
  cell := fun x hx => by
    obtain ⟨c, h1, h2, h3, u, h4, h5⟩ := X.cell x hx
    exact ⟨c, h1, h2, h3, u, h4, fun k v a b d => h5 k v a b (e _ _ d)⟩
  apart := X.apart

open Classical in
noncomputable def TT.dropF (T : TT) (F : Addr → Prop) : TT := fun a => if F a then none else T a
theorem TT.dropF_in {T : TT} {F : Addr → Prop} {a : Addr} (h : F a) : T.dropF F a = none := if_pos h
theorem TT.dropF_out {T : TT} {F : Addr → Prop} {a : Addr} (h : ¬ F a) : T.dropF F a = T a := if_neg h
section
variable {F : Addr → Prop} {h h' : Heap} {T : TT}
theorem dropF_some (p : FP F T) {a : Addr} {r : Role} (e : T a = some r) (hr : r ≠ .priv) : T.dropF F a = some r := by
  rw [TT.dropF_out fun hf => ?_]
  · exact e
  · have := p a hf; rw [e] at this; cases this; exact hr rfl
theorem dropF_none {a : Addr} (e : T a = none) : T.dropF F a = none := by
  by_cases q : F a
  · exact TT.dropF_in q
  · rw [TT.dropF_out q]; exact e
theorem dropF_back {a : Addr} {r : Role} (e : T.dropF F a = some r) : T a = some r ∧ ¬ F a := by
  by_cases q : F a
  · rw [TT.dropF_in q] at e; cases e
  · rw [TT.dropF_out q] at e; exact ⟨e, q⟩
mutual
theorem VR.letGo (p : FP F T) (k : ∀ b o, ¬ F b → h.get? b = some o → h'.get? b = some o) : ∀ (v : V) {x : Value}, VR h T v x → VR h' (T.dropF F) v x
  | .none, x, q => q
  | .bool _, x, q => q
  | .int _, x, q => q
  | .str _, x, q => q
  | .bytes _, x, q => q
  | .list vs, x, q => by
    obtain ⟨a, ys, e1, e2, ⟨n, ho⟩, e4⟩ := q
    exact ⟨a, ys, e1, dropF_none e2, ⟨n, k _ _ (fun hf => by have := p a hf; rw [e2] at this; cases this) ho⟩, VRs.letGo p k vs e4⟩
  | .tup vs, x, q => by
    obtain ⟨a, ys, e1, e2, ⟨o, ho, hc⟩, e4⟩ := q
    exact ⟨a, ys, e1, dropF_none e2, ⟨o, k _ _ (fun hf => by have := p a hf; rw [e2] at this; cases this) ho, hc⟩, VRs.letGo p k vs e4⟩
  | .obj c n, x, q => let ⟨a, e1, e2⟩ := q; ⟨a, e1, dropF_some p e2 nofun⟩
  | .dict n, x, q => let ⟨a, e1, e2⟩ := q; ⟨a, e1, dropF_some p e2 nofun⟩
  | .sd n, x, q => let ⟨a, e1, e2⟩ := q; ⟨a, e1, dropF_some p e2 nofun⟩
  | .ml n, x, q => let ⟨a, e1, e2⟩ := q; ⟨a, e1, dropF_some p e2 nofun⟩
theorem VRs.letGo (p : FP F T) (k : ∀ b o, ¬ F b → h.get? b = some o → h'.get? b = some o) : ∀ (vs : List V) {xs : List Value}, VRs h T vs xs → VRs h' (T.dropF F) vs xs
  | [], [], q => q
  | _ :: _, [], q => q
  | [], _ :: _, q => q
  | v :: vs, x :: xs, q => ⟨VR.letGo p k v q.1, VRs.letGo p k vs q.2⟩
end
theorem FR.letGo (p : FP F T) (k : ∀ b o, ¬ F b → h.get? b = some o → h'.get? b = some o) {ok : Nat → Bool} : ∀ {fs : Fields} {es : List DictEntry}, FR h T ok fs es → FR h' (T.dropF F) ok fs es
  | [], [], _ => trivial
  | (_, v) :: _, _ :: _, q => ⟨⟨q.1.1, q.1.2.1, q.1.2.2.1, VR.letGo p k v q.1.2.2.2⟩, FR.letGo p k q.2⟩
  | [], _ :: _, q => q.elim
  | _ :: _, [], q => q.elim
theorem DR.letGo (p : FP F T) (k : ∀ b o, ¬ F b → h.get? b = some o → h'.get? b = some o) : ∀ {fs : List (Int × V)} {es : List (Option Int × Value)}, DR h T fs es → DR h' (T.dropF F) fs es
  | [], [], _ => trivial
  | (_, v) :: _, _ :: _, q => ⟨⟨q.1.1, VR.letGo p k v q.1.2⟩, DR.letGo p k q.2⟩
  | [], _ :: _, q => q.elim
  | _ :: _, [], q => q.elim
theorem SR.letGo (p : FP F T) (k : ∀ b o, ¬ F b → h.get? b = some o → h'.get? b = some o) : ∀ {fs : List (Nat × V)} {es : List (Str × Value)}, SR h T fs es → SR h' (T.dropF F) fs es
  | [], [], _ => trivial
  | (_, v) :: _, _ :: _, q => ⟨⟨q.1.1, q.1.2.1, VR.letGo p k v q.1.2.2⟩, SR.letGo p k q.2⟩
  | [], _ :: _, q => q.elim
  | _ :: _, [], q => q.elim
theorem Rp.letGo {g : Glb} {s : St} (R : Rp g h T s) (p : FP F T) (k : ∀ b o, ¬ F b → h.get? b = some o → h'.get? b = some o) : Rp g h' (T.dropF F) s := by
  refine ⟨fun a c n x => ?_, fun a c n x => ?_, fun a n x => ?_, fun a n x => ?_, fun a n x => ?_, fun a b r x y z => R.inj _ _ _ (dropF_back x).1 (dropF_back y).1 z, fun a r x => R.lo2 _ _ (dropF_back x).1, fun a r x => ?_, fun b o x => k b o (fun hf => ?_) (R.keep b o x)⟩
  · obtain ⟨h1, h2⟩ := dropF_back x
    obtain ⟨y, dx, a1, a2⟩ := R.inst a c n h1; exact ⟨y, dx, k _ _ h2 a1, dropF_some p a2 nofun⟩
  · obtain ⟨h1, h2⟩ := dropF_back x
    obtain ⟨y, fs, es, i, a1, a2, a3⟩ := R.attrs a c n h1; exact ⟨y, fs, es, i, a1, k _ _ h2 a2, a3.letGo p k⟩
  · obtain ⟨h1, h2⟩ := dropF_back x
    obtain ⟨es, kvs, a1, ⟨o, es', ep, b1, b2⟩, a3⟩ := R.dict a n h1; exact ⟨es, kvs, a1, ⟨o, es', ep, k _ _ h2 b1, b2⟩, a3.letGo p k⟩
  · obtain ⟨h1, h2⟩ := dropF_back x
    obtain ⟨es, kvs, a1, ⟨o, es', ep, b1, b2⟩, a3⟩ := R.sd a n h1; exact ⟨es, kvs, a1, ⟨o, es', ep, k _ _ h2 b1, b2⟩, a3.letGo p k⟩
  · obtain ⟨h1, h2⟩ := dropF_back x
    obtain ⟨vs, xs, a1, ⟨o, b1⟩, a3⟩ := R.ml a n h1; exact ⟨vs, xs, a1, ⟨o, k _ _ h2 b1⟩, VRs.letGo p k _ a3⟩
  · obtain ⟨h1, h2⟩ := dropF_back x
    obtain ⟨o, ho⟩ := R.live a r h1; exact ⟨o, k _ _ h2 ho⟩
  · have := R.lo b _ (p b hf); rw [x] at this; cases this
theorem FrOk.letGo {env : Env} {ks : Ks} {l : Loc} (X : FrOk env ks h T l) (p : FP F T) (aw : Away F env ks) (k : ∀ b o, ¬ F b → h.get? b = some o → h'.get? b = some o) : FrOk env ks h' (T.dropF F) l where
  kind := X.kind
  names := X.names
  glob := X.glob
  blt := X.blt
  priv := by rw [TT.dropF_out aw.1]; exact X.priv
  ns := by
    obtain ⟨m, hn, hv⟩ := X.ns
    refine ⟨m, hn.at' fun o ho => k _ _ aw.1 ho, fun x v h1 h2 => ?_⟩
    obtain ⟨y, h3, h4⟩ := hv x v h1 h2
    exact ⟨y, h3, h4.letGo p k⟩
  cell := fun x hx => by
    obtain ⟨c, h1, h2, h3, u, h4, h5⟩ := X.cell x hx
    refine ⟨c, h1, by rw [TT.dropF_out (aw.2 x c hx h1)]; exact h2, h3, u, ?_, fun j v a b d => ?_⟩
    · obtain ⟨o, ho, hd⟩ := h4; exact ⟨o, k _ _ (aw.2 x c hx h1) ho, hd⟩
    · obtain ⟨y, h6, h7⟩ := h5 j v a b d; exact ⟨y, h6, h7.letGo p k⟩
  apart := X.apart
/-- from before the things were made that are let go -/
theorem Evo.letGo {G : Addr → Prop} {h0 : Heap} {T0 : TT} (e : Evo G h0 T0 h T) (hn : ∀ a, F a → h0.get? a = none ∧ T0 a = none) (k : ∀ b o, ¬ F b → h.get? b = some o → h'.get? b = some o) : Evo G h0 T0 h' (T.dropF F) := by
  refine ⟨fun a r x => ?_, fun a x y => ?_, fun a o ho hp hg => k a o (fun hf => by rw [(hn a hf).1] at ho; cases ho) (e.keep a o ho hp hg)⟩
  · rw [TT.dropF_out fun hf => by rw [(hn a hf).2] at x; cases x]; exact e.role a r x
  · by_cases q : F a
    · exact (hn a q).1
    · rw [TT.dropF_out q] at y; exact e.fresh a x y
end

abbrev Get := St → Nat → Option (Option V)
def getItems (xs : List V) : Get := fun _ i => some xs[i]?
def getPlace (k : Nat) : Get := fun st i => (st.mls[k]?).map fun xs => xs[i]?

def Off (F F' : Addr → Prop) : Prop := ∀ a, F a → ¬ F' a
def Or2 (F F' : Addr → Prop) : Addr → Prop := fun a => F a ∨ F' a

/-- an iterator: how it goes on, and one turn's first part: the next item, stored in the target -/
structure Iter (g : Glb) (A : Around) (t : Expr) (I : Addr) (F : Addr → Prop) (get : Get) (P : Nat → Heap → TT → Prop) : Prop where
  fp : ∀ {i h T}, P i h T → FP F T
  keep : ∀ {i h T h' T' F'}, P i h T → FP F' T → Off F F' → Evo F' h T h' T' → P i h' T'
  item : ∀ {K : Frag} {fa : Nat → Addr} {i : Nat} {v : V} {s : Shared} {T : TT} {st st' : St} {env : Env} {ks : Ks} {l l' : Loc} {tg : Tg} {m n : Nat} {r : Rec} {F2 : Addr → Prop} {Q : Unit → Shared → Prop} {E : Value → Shared → Prop}, GOk g K fa → Snd g n r → Rm A n →
    get st i = some (some v) → P i s.heap T → Rp g s.heap T st → FrOk env ks s.heap T l → cTg (cE m) ks t = some tg → Own F2 env ks tg.vars → FP F2 T → Off F F2 → Away F env ks → assign g.P r tg v l st = some (l', st') →
    (∀ h' tk T', Evo (Or2 F F2) s.heap T h' T' → Rp g h' T' st' → FrOk env ks h' T' l' → P (i + 1) h' T' → Q () { s with heap := h', toks := tk }) →
    wpAny g.M A (pyNext (.ref I)) (fun x s₁ => ∃ y, x = some y ∧ wpAny g.M A (letOwnedTupleGo t (.ref I) y) (fun _ s₂ => wpAny g.M A (PySem.assign t env y) Q E s₂) E s₁) E s
  done : ∀ {i : Nat} {s : Shared} {T : TT} {st : St} {Q : Option Value → Shared → Prop} {E : Value → Shared → Prop}, get st i = some none → P i s.heap T → Rp g s.heap T st →
    (∀ h' tk, (∀ b o, ¬ F b → s.heap.get? b = some o → h'.get? b = some o) → Q none { s with heap := h', toks := tk }) → wpAny g.M A (pyNext (.ref I)) Q E s
  self : ∀ {i : Nat} {s : Shared} {T : TT} {Q : Value → Shared → Prop} {E : Value → Shared → Prop}, P i s.heap T → Q (.ref I) s → wpAny g.M A (pyIter (.ref I)) Q E s

theorem evo_none {F : Addr → Prop} {h h' : Heap} {T T' : TT} (e : Evo F h T h' T') {b : Addr} {o : Obj} (hb : T b = none) (ho : h.get? b = some o) : T' b = none := by
  cases q : T' b with
  | none => rfl
  | some r => have := e.fresh b hb (by rw [q]; exact nofun); rw [ho] at this; cases this

/-- the part of the heap that an iterator leans on -/
structure Leans (fp wr : List Addr) (h : Heap) (T : TT) : Prop where
  priv : ∀ b ∈ wr, T b = some .priv
  rest : ∀ b ∈ fp, b ∈ wr ∨ T b = none
  live : ∀ b ∈ fp, ∃ o, h.get? b = some o
theorem Leans.evo {fp wr : List Addr} {h h' : Heap} {T T' : TT} {F' : Addr → Prop} (L : Leans fp wr h T) (hp : FP F' T) (off : Off (fun a => a ∈ wr) F') (e : Evo F' h T h' T') : Leans fp wr h' T' ∧ ∀ b ∈ fp, ∀ o, h.get? b = some o → h'.get? b = some o := by
  have k : ∀ b ∈ fp, ∀ o, h.get? b = some o → h'.get? b = some o := fun b hb o ho => by
    rcases L.rest b hb with q | q
    · exact e.priv (L.priv b q) (off b q) ho
    · exact e.keep b o ho (fun r hr => by rw [q] at hr; cases hr) fun hf => by have := hp b hf; rw [q] at this; cases this
  refine ⟨⟨fun b hb => e.role _ _ (L.priv b hb), fun b hb => ?_, fun b hb => ?_⟩, k⟩
  · rcases L.rest b hb with q | q
    · exact .inl q
    · obtain ⟨o, ho⟩ := L.live b hb; exact .inr (evo_none e q ho)
  · obtain ⟨o, ho⟩ := L.live b hb; exact ⟨o, k b hb o ho⟩

theorem wr_evo {g : Glb} {h h' : Heap} {T : TT} {st : St} {wr : List Addr} (R : Rp g h T st) (hw : ∀ b ∈ wr, T b = some .priv) (k : ∀ b o, b ∉ wr → h.get? b = some o → h'.get? b = some o) (lv : ∀ b ∈ wr, ∃ o, h'.get? b = some o) :
    Rp g h' T st ∧ Evo (fun a => a ∈ wr) h T h' T := R.setPriv (F := fun a => a ∈ wr) hw k lv

theorem Or2.mono1 {F F' : Addr → Prop} {h h' : Heap} {T T' : TT} (e : Evo F h T h' T') : Evo (Or2 F F') h T h' T' := e.mono fun _ x => .inl x
theorem Or2.mono2 {F F' : Addr → Prop} {h h' : Heap} {T T' : TT} (e : Evo F' h T h' T') : Evo (Or2 F F') h T h' T' := e.mono fun _ x => .inr x
theorem FP.or {F F' : Addr → Prop} {T : TT} (p : FP F T) (p' : FP F' T) : FP (Or2 F F') T := fun a h => h.elim (p a) (p' a)

theorem letGo_var {ks : Ks} {f : Ks → Expr → Option PE} {t : Expr} {k : Nat} (h : cTg f ks t = some (.var k)) (it v : Value) : letOwnedTupleGo t it v = pure () := by
  rcases cTg_inv h with ⟨_, _, _, rfl, _⟩ | ⟨_, _, _, _, _, _, _, _, q⟩ | ⟨_, _, _, _, _, _, _, _, _, q⟩ | ⟨_, _, _, _, _, _, q⟩
  · rfl
  all_goals cases q

/-- any walk over single values, its source a plain value -/
theorem Iter.ofWalks {g : Glb} {A : Around} {t : Expr} {I : Addr} {fp wr : List Addr} {n : Nat} {Pv : Nat → Value → Prop} {S : Nat → Heap → Prop} {xs : List V} (hn : n = xs.length) (W : Walks g.prog g.w A I fp wr n Pv S) (ht : ∀ it v, letOwnedTupleGo t it v = pure ()) (hI : I ∈ wr)
    (C : Nat → Heap → TT → Prop) (hC : ∀ {i h T h' T' F'}, C i h T → FP F' T → Evo F' h T h' T' → C i h' T') (hv : ∀ {i h T y}, i < n → C i h T → Pv i y → ∃ v, xs[i]? = some v ∧ VR h T v y) (hC1 : ∀ {i h T}, i < n → C i h T → C (i + 1) h T) (hlen : ∀ {i h T}, C i h T → i ≤ n) (lv : ∀ {i h b}, S i h → b ∈ wr → ∃ o, h.get? b = some o)
    (lvE : ∀ b ∈ wr, b = I) : Iter g A t I (fun a => a ∈ wr) (getItems xs) (fun i h T => S i h ∧ Leans fp wr h T ∧ C i h T) where
  fp := fun p => p.2.1.priv
  keep := fun p hp off e => by
    obtain ⟨L, k⟩ := p.2.1.evo hp off e
    exact ⟨W.frame _ _ _ p.1 k, L, hC p.2.2 hp e⟩
  item := fun {K fa i v s T st st' env ks l l' tg m nn r F2 Q E} G Sn hA hg p R X hc ow fp2 off aw he q => by
    have hlt : i < n := by
      simp only [getItems, Option.some.injEq] at hg
      rw [hn]; exact (List.getElem?_eq_some_iff.mp hg).1
    refine W.item i s _ _ hlt p.1 fun y h' tk hy hs hk => ⟨y, rfl, ?_⟩
    rw [ht]
    refine wpAny_pure ?_
    obtain ⟨R', e⟩ := wr_evo R p.2.1.priv hk fun b hb => lv hs hb
    have X' : FrOk env ks h' T l := X.evo p.2.1.priv e aw
    have c' := hC p.2.2 p.2.1.priv e
    obtain ⟨w, hw, rw'⟩ := hv hlt c' hy
    simp only [getItems, Option.some.injEq] at hg
    rw [hg] at hw; cases hw
    refine assign_ok (s := { s with heap := h', toks := tk }) G Sn hA tg hc ow fp2 X' R' rw' he fun h'' tk'' T'' e'' R'' X'' => ?_
    have hL : Leans fp wr h' T := ⟨p.2.1.priv, p.2.1.rest, fun b hb => by
      obtain ⟨o, ho⟩ := p.2.1.live b hb
      by_cases q : b ∈ wr
      · exact lv hs q
      · exact ⟨o, hk b o q ho⟩⟩
    obtain ⟨L', k'⟩ := hL.evo fp2 off e''
    refine q h'' tk'' T'' (Evo.trans (F := Or2 (fun a => a ∈ wr) F2) (FP.or p.2.1.priv fp2) (Or2.mono1 e) (Or2.mono2 e'')) R'' X'' ⟨W.frame _ _ _ hs k', L', hC (hC1 hlt c') fp2 e''⟩
  done := fun {i s T st Q E} hg p R q => by
    have hi : i = n ∨ n < i := by
      simp only [getItems, Option.some.injEq] at hg
      have := List.getElem?_eq_none_iff.mp hg
      omega
    rcases hi with rfl | hi
    · exact W.done s _ _ p.1 fun h' tk hk => q h' tk fun b o hb e => hk b o hb e
    · exact absurd hi (Nat.not_lt.mpr (hlen p.2.2))
  self := fun p q => W.self _ _ _ _ p.1 q
end Mux
namespace Mux
open PySem PySem.W

theorem mem1 {b I : Addr} (h : b ∈ [I]) : b = I := List.mem_singleton.mp h
section
variable {g : Glb} {A : Around} {t : Expr} {I l : Addr}

theorem Iter.listI (hh : A.handled = none) (hne : l ≠ I) {xs : List V} {ys : List Value} (hl : xs.length = ys.length) (ht : ∀ it v, letOwnedTupleGo t it v = pure ()) :
    Iter g A t I (fun a => a ∈ [I]) (getItems xs) (fun i h T => (h.IsListIter I l i ∧ h.IsList l ys.toArray) ∧ Leans [I, l] [I] h T ∧ (VRs h T xs ys ∧ i ≤ ys.toArray.size)) :=
  Iter.ofWalks (n := ys.toArray.size) (by rw [List.size_toArray, hl]) (Walks.list hh I l hne ys.toArray) ht (by simp) (fun i h T => VRs h T xs ys ∧ i ≤ ys.toArray.size) (fun c p e => ⟨VRs.evo p e _ c.1, c.2⟩)
    (fun {i h T y} _ c hy => by
      have hy' : ys[i]? = some y := by simpa using hy
      have hlt := (List.getElem?_eq_some_iff.mp hy').1
      have hx : xs[i]? = some xs[i] := List.getElem?_eq_getElem (by omega)
      obtain ⟨z, hz, rz⟩ := c.1.get hx
      rw [hy'] at hz; cases hz
      exact ⟨_, hx, rz⟩)
    (fun hi c => ⟨c.1, hi⟩) (fun c => c.2) (fun {i h b} s hb => by cases mem1 hb; obtain ⟨o, ho, _⟩ := s.1; exact ⟨o, ho⟩) fun b hb => mem1 hb

theorem Iter.tupI (hh : A.handled = none) (hne : l ≠ I) {xs : List V} {ys : List Value} (hl : xs.length = ys.length) (ht : ∀ it v, letOwnedTupleGo t it v = pure ()) :
    Iter g A t I (fun a => a ∈ [I]) (getItems xs) (fun i h T => (h.IsTupleIter I l i ∧ h.IsTuple l ys.toArray) ∧ Leans [I, l] [I] h T ∧ (VRs h T xs ys ∧ i ≤ ys.toArray.size)) :=
  Iter.ofWalks (n := ys.toArray.size) (by rw [List.size_toArray, hl]) (Walks.tuple hh I l hne ys.toArray) ht (by simp) (fun i h T => VRs h T xs ys ∧ i ≤ ys.toArray.size) (fun c p e => ⟨VRs.evo p e _ c.1, c.2⟩)
    (fun {i h T y} _ c hy => by
      have hy' : ys[i]? = some y := by simpa using hy
      have hlt := (List.getElem?_eq_some_iff.mp hy').1
      have hx : xs[i]? = some xs[i] := List.getElem?_eq_getElem (by omega)
      obtain ⟨z, hz, rz⟩ := c.1.get hx
      rw [hy'] at hz; cases hz
      exact ⟨_, hx, rz⟩)
    (fun hi c => ⟨c.1, hi⟩) (fun c => c.2) (fun {i h b} s hb => by cases mem1 hb; obtain ⟨o, ho, _⟩ := s.1; exact ⟨o, ho⟩) fun b hb => mem1 hb

theorem Iter.rangeI (hh : A.handled = none) {a c : Int} {n : Nat} {xs : List V} (hn : n = xs.length) (hx : ∀ i < n, xs[i]? = some (.int (a + i * c))) (ht : ∀ it v, letOwnedTupleGo t it v = pure ()) :
    Iter g A t I (fun a => a ∈ [I]) (getItems xs) (fun i h T => IsRangeIter h I (a + (i : Nat) * c) ((n : Int) - (i : Nat)) c ∧ Leans [I] [I] h T ∧ i ≤ n) :=
  Iter.ofWalks (n := n) hn (Walks.range hh I a c n) ht (by simp) (fun i h T => i ≤ n) (fun c _ _ => c)
    (fun {i h T y} q _ hy => by
      obtain ⟨tk, rfl⟩ := hy
      exact ⟨_, hx i q, ⟨tk, rfl⟩⟩)
    (fun hi c => hi) (fun c => c) (fun {i h b} s hb => by cases mem1 hb; exact ⟨_, s⟩) fun b hb => mem1 hb

theorem Iter.mlI (hh : A.handled = none) {k : Nat} (ht : ∀ it v, letOwnedTupleGo t it v = pure ()) :
    Iter g A t I (fun a => a ∈ [I]) (getPlace k) (fun i h T => h.IsListIter I l i ∧ T l = some (.ml k) ∧ T I = some .priv) where
  fp := fun p b hb => by cases mem1 hb; exact p.2.2
  keep := fun {i h T h' T' F'} p hp off e => by
    refine ⟨?_, e.role _ _ p.2.1, e.role _ _ p.2.2⟩
    exact p.1.at fun o ho => e.priv p.2.2 (off I (by simp)) ho
  item := fun {K fa i v s T st st' env ks l' l'' tg m nn r F2 Q E} G Sn hA hg p R X hc ow fp2 off aw he q => by
    obtain ⟨xs, h1, h2⟩ := Option.map_eq_some_iff.mp hg
    obtain ⟨hit, hT, hI⟩ := p
    obtain ⟨vs, ys, a1, a2, a3⟩ := R.ml l k hT
    rw [h1] at a1; cases a1
    obtain ⟨y, hy, ry⟩ := a3.get h2
    have fp1 : FP (fun a => a ∈ [I]) T := fun b hb => by cases mem1 hb; exact hI
    refine wpAny_pyNext_list_item hit a2.isList (x := y) (by simpa using hy) fun h' hit' hs' => ⟨y, rfl, ?_⟩
    rw [ht]
    refine wpAny_pure ?_
    obtain ⟨R', e⟩ := R.setPriv (h' := h') fp1 (fun b o nf e => hs'.extBut b o (fun q => nf (by simp [q])) e) fun b hb => by cases mem1 hb; obtain ⟨o, ho, _⟩ := hit'; exact ⟨o, ho⟩
    refine assign_ok (s := { s with heap := h' }) G Sn hA tg hc ow fp2 (X.evo fp1 e aw) R' (ry.evo fp1 e) he fun h'' tk'' T'' e'' R'' X'' => ?_
    refine q h'' tk'' T'' (Evo.trans (F := Or2 (fun a => a ∈ [I]) F2) (FP.or fp1 fp2) (Or2.mono1 e) (Or2.mono2 e'')) R'' X'' ⟨hit'.at fun o ho => e''.priv hI (off I (by simp)) ho, e''.role _ _ hT, e''.role _ _ hI⟩
  done := fun {i s T st Q E} hg p R q => by
    obtain ⟨xs, h1, h2⟩ := Option.map_eq_some_iff.mp hg
    obtain ⟨hit, hT, hI⟩ := p
    obtain ⟨vs, ys, a1, a2, a3⟩ := R.ml l k hT
    rw [h1] at a1; cases a1
    refine wpAny_pyNext_list_end hh hit a2.isList (by
      have := List.getElem?_eq_none_iff.mp h2
      have hl := a3.length
      simp; omega) fun h' he => q h' s.toks fun b o hb e => he b o (fun z => hb (by simp [z])) e
  self := fun p q => wpAny_pyIter_listiter p.1 q

theorem Iter.enumI (hh : A.handled = none) {e it l : Addr} {es : List Expr} {j : Nat} {tp : Pos} (hei : e ≠ it) (hel : e ≠ l) (hil : l ≠ it) {xs : List V} {ys : List Value} (hl : xs.length = ys.length) :
    Iter g A (.Tuple es j tp) e (fun a => a ∈ [e, it]) (getItems (enumFrom 0 xs)) (fun i h T => ((∃ old, IsEnum h e it i old) ∧ h.IsListIter it l i ∧ h.IsList l ys.toArray) ∧ Leans [e, it, l] [e, it] h T ∧ VRs h T xs ys ∧ i ≤ ys.toArray.size) := by
  have W := WalksT.enumerateD (Draws.list (prog := g.prog) (w := g.w) (A := A.in1) hh it l hil ys.toArray) e hei (by simp [hei, hel]) (by simp)
  have hen : ∀ (i n : Nat) (xs : List V), (enumFrom n xs)[i]? = (xs[i]?).map fun x => V.tup [.int ((n + i : Nat) : Int), x] := by
    intro i
    induction i with
    | zero => intro n xs; cases xs <;> simp [enumFrom]
    | succ i ih =>
      intro n xs
      cases xs with
      | nil => simp [enumFrom]
      | cons x xs => simp only [enumFrom, List.getElem?_cons_succ, ih]; rw [show n + 1 + i = n + (i + 1) by omega]
  refine ⟨fun p => p.2.1.priv, fun p hp off e => ?_, fun {K fa i v s T st st' env ks l' l'' tg m nn r F2 Q E} G Sn hA hg p R X hc ow fp2 off aw he q => ?_, fun {i s T st Q E} hg p R q => ?_, fun p q => W.self _ _ _ _ p.1 q⟩
  · obtain ⟨L, k⟩ := p.2.1.evo hp off e
    exact ⟨W.frame _ _ _ p.1 k, L, VRs.evo hp e _ p.2.2.1, p.2.2.2⟩
  · simp only [getItems, Option.some.injEq] at hg
    rw [hen] at hg
    obtain ⟨x, hx, rfl⟩ := Option.map_eq_some_iff.mp hg
    have hlt := (List.getElem?_eq_some_iff.mp hx).1
    have hlt' : i < ys.toArray.size := by rw [List.size_toArray]; omega
    refine W.item i s _ _ hlt' p.1 fun T0 vals h1 tk1 hP hge hT0 hM hk1 => ⟨_, rfl, ?_⟩
    obtain ⟨t1, y, hy, rfl⟩ := hP
    have hy' : ys[i]? = some y := by simpa using hy
    refine W.go es j tp i T0 _ _ _ hM fun h2 hS2 hk2 => ?_
    have hT2 : h2.IsTuple T0 #[.int i t1, y] := hT0.at fun o ho => hk2 T0 o (W.apart i T0 h1 hM) ho
    have hk : ∀ b o, b ∉ [e, it] → s.heap.get? b = some o → h2.get? b = some o := fun b o hb ho => hk2 b o hb (hk1 b o hb ho)
    obtain ⟨R', ev⟩ := wr_evo (h' := h2) R p.2.1.priv hk fun b hb => by
      rcases List.mem_cons.mp hb with rfl | hb
      · obtain ⟨old, ho⟩ := hS2.1; exact ⟨_, ho⟩
      · cases mem1 hb; obtain ⟨o, ho, _⟩ := hS2.2.1; exact ⟨o, ho⟩
    have X' := X.evo p.2.1.priv ev aw
    have rys := VRs.evo p.2.1.priv ev _ p.2.2.1
    obtain ⟨z, hz, rz⟩ := rys.get hx
    rw [hy'] at hz; cases hz
    rcases cTg_inv hc with ⟨_, _, _, w, _⟩ | ⟨_, _, _, _, _, w, _⟩ | ⟨_, _, _, _, _, w, _⟩ | ⟨es', j', tp', ts, w, h3, rfl⟩ <;> try cases w
    simp only [Mux.assign] at he
    split at he
    · rename_i hlen
      obtain ⟨c1, c2⟩ := cTgs_len (env := env) h3
      refine wpAny_assign_Tuple hA.handled hT2 (by rw [c1]; exact beq_iff_eq.mp hlen) c2 fun h4 hx4 => ?_
      have k4 : ∀ b o, h2.get? b = some o → h4.get? b = some o := fun b o ho => hx4 b o (Nat.ne_of_lt (Heap.lt_size ho)) ho
      have e4 : Evo F0 h2 T h4 T := .grow k4
      have hL2 : Leans [e, it, l] [e, it] h2 T := ⟨p.2.1.priv, p.2.1.rest, fun b hb => by
        obtain ⟨o, ho⟩ := p.2.1.live b hb
        by_cases q : b ∈ [e, it]
        · exact R'.live b _ (p.2.1.priv b q)
        · exact ⟨o, hk b o q ho⟩⟩
      refine assigns_ok (s := { s with heap := h4, toks := tk1 }) G Sn hA ts h3 (ow.sub fun x hx => by simpa [Tg.vars] using hx) fp2 (X'.pass e4) (R'.grow k4) (vs := [.int ((0 + i : Nat) : Int), x]) (xs := [.int i t1, y]) ⟨⟨t1, by simp⟩, rz.pass e4, trivial⟩ he fun h5 tk5 T5 e5 R5 X5 => ?_
      have e45 : Evo F2 h2 T h5 T5 := Evo.trans (F := F2) fp2 (e4.mono fun _ h => h.elim) e5
      obtain ⟨L', k'⟩ := hL2.evo fp2 off e45
      exact q h5 tk5 T5 (Evo.trans (F := Or2 (fun a => a ∈ [e, it]) F2) (FP.or p.2.1.priv fp2) (Or2.mono1 ev) (Or2.mono2 e45)) R5 X5 ⟨W.frame _ _ _ hS2 k', L', VRs.evo fp2 e45 _ rys, hlt'⟩
    · cases he
  · have hi : i = ys.toArray.size := by
      simp only [getItems, Option.some.injEq] at hg
      rw [hen] at hg
      have := List.getElem?_eq_none_iff.mp (Option.map_eq_none_iff.mp hg)
      have := p.2.2.2
      rw [List.size_toArray] at *; omega
    subst hi
    exact W.done s _ _ p.1 fun h' tk hk => q h' tk fun b o hb e => hk b o hb e
end
end Mux
namespace Mux
open PySem PySem.W

def getOf : It → Get
  | .items xs => getItems xs
  | .place k _ => getPlace k

theorem cSrc_plain {f : Ks → Expr → Option PE} {ks : Ks} {e : Expr} {src : Src} (h : cSrc f ks e = some src) : isSetE e = false := by
  unfold cSrc at h
  split at h
  · rfl
  · split at h
    · cases h
    · rename_i q; simpa using q

theorem pylong_neg {x : Int} : Builtin.divisionGoesByPylong x (-1) = false := by
  unfold Builtin.divisionGoesByPylong
  simp only [show ((-1 : Int) == 0) = false from rfl, Bool.false_eq_true, if_false]
  have h2 : ¬ (300 < Nat.log2 1 / 30 + 1) := by decide
  simp [h2]
theorem size_up {a b : Int} : Builtin.Range.rangeSize a b 1 = ((b - a).toNat : Int) := by
  unfold Builtin.Range.rangeSize
  rw [if_pos (by decide)]
  split <;> omega
theorem size_down {a b : Int} : Builtin.Range.rangeSize a b (-1) = ((a - b).toNat : Int) := by
  unfold Builtin.Range.rangeSize
  rw [if_neg (by decide), show (-(-1) : Int) = 1 from rfl, Int.ediv_one]
  split <;> omega
theorem fits_small {x : Int} (h1 : -3000 ≤ x) (h2 : x ≤ 3000) : Builtin.Range.rangeFitsLong x = true := by
  unfold Builtin.Range.rangeFitsLong
  simp; omega
theorem small_up {a b : Int} (h1 : -1000 ≤ a) (h2 : a ≤ 1000) (h3 : -1000 ≤ b) (h4 : b ≤ 1000) : Builtin.Range.small a b 1 = true := by
  unfold Builtin.Range.small
  rw [size_up, if_pos (by decide), fits_small (by omega) (by omega), fits_small (by omega) (by omega), fits_small (by omega) (by omega), fits_small (by omega) (by omega), fits_small (by omega) (by omega)]
  simp
theorem small_down {a b : Int} (h1 : -1000 ≤ a) (h2 : a ≤ 1000) (h3 : -1000 ≤ b) (h4 : b ≤ 1000) : Builtin.Range.small a b (-1) = true := by
  unfold Builtin.Range.small
  rw [size_down, if_neg (by decide), fits_small (by omega) (by omega), fits_small (by omega) (by omega), fits_small (by omega) (by omega), fits_small (by omega) (by omega), fits_small (by omega) (by omega)]
  simp

section
variable {g : Glb} {K : Frag} {fa : Nat → Addr} {A : Around} {E : Value → Shared → Prop} {s : Shared} {T : TT} {st st' : St} {env : Env} {ks : Ks} {l : Loc} {n m : Nat} {r : Rec} {Q : Value → Shared → Prop}

def SrcQ (g : Glb) (A : Around) (t : Expr) (s : Shared) (T : TT) (st' : St) (it : It) (Q : Value → Shared → Prop) : Prop :=
  ∀ h' tk T' I (F : Addr → Prop) P, Evo F0 s.heap T h' T' → Rp g h' T' st' → (∀ b, F b → s.heap.get? b = none ∧ T b = none) → Iter g A t I F (getOf it) P → P 0 h' T' → Q (.ref I) { s with heap := h', toks := tk }

theorem fresh_of {h1 : Heap} {T1 : TT} {st1 : St} (e : Evo F0 s.heap T h1 T1) (R : Rp g h1 T1 st1) {b : Addr} (hb : h1.objs.size ≤ b) : s.heap.get? b = none ∧ T b = none := by
  have hT : T b = none := by
    cases q : T b with
    | none => rfl
    | some r => have := e.role b r q; rw [R.new hb] at this; cases this
  refine ⟨?_, hT⟩
  cases q : s.heap.get? b with
  | none => rfl
  | some o =>
    have := e.keep b o q (fun r hr => by rw [hT] at hr; cases hr) id
    exact absurd (Heap.lt_size this) (Nat.not_lt.mpr hb)

theorem range_go {h1 : Heap} {T1 : TT} {tk : Nat} {t : Expr} {ra : Addr} {a b c : Int} {t1 t2 t3 : Tok} {xs : List V} (hA : A.handled = none) (ht : ∀ it v, letOwnedTupleGo t it v = pure ()) (e : Evo F0 s.heap T h1 T1) (R : Rp g h1 T1 st') (hr : IsRange h1 ra a b c t1 t2 t3) (hs : Builtin.Range.small a b c = true) (hz : Builtin.Range.rangeSize a b c = (xs.length : Int))
    (hx : ∀ i < xs.length, xs[i]? = some (.int (a + i * c))) (q : SrcQ g A t s T st' (.items xs) Q) : wpAny g.M A (pyIter (.ref ra)) Q E { s with heap := h1, toks := tk } := by
  refine wpAny_pyIter_range (s := { s with heap := h1, toks := tk }) hr hs ?_
  have k := push_keeps h1 { cls := .type "range_iterator", data := .fields #[rawInt a, rawInt (Builtin.Range.rangeSize a b c), rawInt c] }
  have hI : IsRangeIter (h1.push { cls := .type "range_iterator", data := .fields #[rawInt a, rawInt (Builtin.Range.rangeSize a b c), rawInt c] }) h1.objs.size a (Builtin.Range.rangeSize a b c) c := Heap.get?_push_size _ rfl
  obtain ⟨R2, e2⟩ := R.newPrivs (F := fun x => x ∈ [h1.objs.size]) (fun x hx => by cases mem1 hx; exact ⟨Nat.le_refl _, _, hI⟩) k
  refine q _ tk _ _ _ _ (e.trans fp0 e2) R2 (fun x hx => by cases mem1 hx; exact fresh_of e R (Nat.le_refl _)) (Iter.rangeI (I := h1.objs.size) (a := a) (c := c) (n := xs.length) hA rfl hx ht) ?_
  refine ⟨?_, ⟨fun x hx => TT.putP_in hx, fun x hx => .inl hx, fun x hx => by cases mem1 hx; exact ⟨_, hI⟩⟩, Nat.zero_le _⟩
  have e1 : a + ((0 : Nat) : Int) * c = a := by simp
  have e2 : (xs.length : Int) - ((0 : Nat) : Int) = Builtin.Range.rangeSize a b c := by rw [hz]; simp
  show IsRangeIter _ _ (a + ((0 : Nat) : Int) * c) ((xs.length : Int) - ((0 : Nat) : Int)) c
  rw [e1, e2]
  exact hI

theorem vals_ints {h : Heap} {T : TT} {xs : List Value} {ns : List Int} (r : VRs h T (ns.map V.int) xs) : PyProof.Rows.IntsAre xs ns := ints_to r

theorem src_ok (G : GOk g K fa) (S : Snd g n r) (hA : Rm A n) {e t : Expr} {src : Src} {it : It} {tg : Tg} {f : Ks → Expr → Option PE} {ks' : Ks} (hc : cSrc (cE m) ks e = some src) (htg : cTg f ks' t = some tg) (hts : tgSrc tg src = true) (X : FrOk env ks s.heap T l) (R : Rp g s.heap T st)
    (he : srcS r src l st = some (it, st')) (q : SrcQ g A t s T st' it Q) : wpAny g.M A (eval e env) (fun x s₁ => wpAny g.M A (pyIter x) Q E s₁) E s := by
  have valCase : ∀ {p : PE}, cE m ks e = some p → src = .val p → wpAny g.M A (eval e env) (fun x s₁ => wpAny g.M A (pyIter x) Q E s₁) E s := fun {p} hp hsrc => by
    subst hsrc
    have ht : ∀ it v, letOwnedTupleGo t it v = pure () := by
      cases tg <;> try (simp [tgSrc] at hts; done)
      exact letGo_var htg
    simp only [srcS] at he
    split at he
    · rename_i xs st1 e1
      split at he
      · cases he
        refine S.E hp X hA R e1 fun h1 tk T1 y ev R1 ry => ?_
        obtain ⟨a, ys, rfl, hT, hl, rv⟩ := ry
        refine wpAny_pyIter_list (s := { s with heap := h1, toks := tk }) hl.isList ?_
        have k := push_keeps h1 { cls := .type "list_iterator", data := .fields #[.ref a, .int 0 0] }
        have hI : (h1.push { cls := .type "list_iterator", data := .fields #[.ref a, .int 0 0] }).get? h1.objs.size = some { cls := .type "list_iterator", data := .fields #[.ref a, .int 0 0] } := Heap.get?_push_size _ rfl
        obtain ⟨R2, e2⟩ := R1.newPrivs (F := fun x => x ∈ [h1.objs.size]) (fun x hx => by cases mem1 hx; exact ⟨Nat.le_refl _, _, hI⟩) k
        obtain ⟨no, ho⟩ := hl
        have hne : a ≠ h1.objs.size := Nat.ne_of_lt (Heap.lt_size ho)
        refine q _ tk _ _ _ _ (ev.trans fp0 e2) R2 (fun x hx => by cases mem1 hx; exact fresh_of ev R1 (Nat.le_refl _)) (Iter.listI (l := a) (I := h1.objs.size) (ys := ys) hA.handled hne rv.length ht) ?_
        refine ⟨⟨⟨_, hI, rfl, rfl⟩, _, k _ _ ho, rfl, _, rfl⟩, ⟨fun x hx => TT.putP_in hx, fun x hx => ?_, fun x hx => ?_⟩, rv.pass e2, Nat.zero_le _⟩
        · rcases List.mem_cons.mp hx with rfl | hx
          · exact .inl (by simp)
          · cases mem1 hx; exact .inr (by rw [TT.putP_out (by simpa using hne)]; exact hT)
        · rcases List.mem_cons.mp hx with rfl | hx
          · exact ⟨_, hI⟩
          · cases mem1 hx; exact ⟨_, k _ _ ho⟩
      · cases he
    · rename_i xs st1 e1
      split at he
      · cases he
        refine S.E hp X hA R e1 fun h1 tk T1 y ev R1 ry => ?_
        obtain ⟨a, ys, rfl, hT, hl, rv⟩ := ry
        refine wpAny_pyIter_tuple (s := { s with heap := h1, toks := tk }) hl ?_
        have k := push_keeps h1 { cls := .type "tuple_iterator", data := .fields #[.ref a, .int 0 0] }
        have hI : (h1.push { cls := .type "tuple_iterator", data := .fields #[.ref a, .int 0 0] }).get? h1.objs.size = some { cls := .type "tuple_iterator", data := .fields #[.ref a, .int 0 0] } := Heap.get?_push_size _ rfl
        obtain ⟨R2, e2⟩ := R1.newPrivs (F := fun x => x ∈ [h1.objs.size]) (fun x hx => by cases mem1 hx; exact ⟨Nat.le_refl _, _, hI⟩) k
        obtain ⟨o, ho, hrest⟩ := hl
        have hne : a ≠ h1.objs.size := Nat.ne_of_lt (Heap.lt_size ho)
        refine q _ tk _ _ _ _ (ev.trans fp0 e2) R2 (fun x hx => by cases mem1 hx; exact fresh_of ev R1 (Nat.le_refl _)) (Iter.tupI (l := a) (I := h1.objs.size) (ys := ys) hA.handled hne rv.length ht) ?_
        refine ⟨⟨⟨_, hI, rfl, rfl⟩, o, k _ _ ho, hrest⟩, ⟨fun x hx => TT.putP_in hx, fun x hx => ?_, fun x hx => ?_⟩, rv.pass e2, Nat.zero_le _⟩
        · rcases List.mem_cons.mp hx with rfl | hx
          · exact .inl (by simp)
          · cases mem1 hx; exact .inr (by rw [TT.putP_out (by simpa using hne)]; exact hT)
        · rcases List.mem_cons.mp hx with rfl | hx
          · exact ⟨_, hI⟩
          · cases mem1 hx; exact ⟨_, k _ _ ho⟩
      · cases he
    · rename_i kk st1 e1
      obtain ⟨xs, h2, h3⟩ := Option.bind_eq_some_iff.mp he
      split at h3
      · cases h3
        refine S.E hp X hA R e1 fun h1 tk T1 y ev R1 ry => ?_
        obtain ⟨a, rfl, hT⟩ := ry
        obtain ⟨vs, ys, a1, a2, a3⟩ := R1.ml a kk hT
        refine wpAny_pyIter_list (s := { s with heap := h1, toks := tk }) a2.isList ?_
        have k := push_keeps h1 { cls := .type "list_iterator", data := .fields #[.ref a, .int 0 0] }
        have hI : (h1.push { cls := .type "list_iterator", data := .fields #[.ref a, .int 0 0] }).get? h1.objs.size = some { cls := .type "list_iterator", data := .fields #[.ref a, .int 0 0] } := Heap.get?_push_size _ rfl
        obtain ⟨R2, e2⟩ := R1.newPrivs (F := fun x => x ∈ [h1.objs.size]) (fun x hx => by cases mem1 hx; exact ⟨Nat.le_refl _, _, hI⟩) k
        exact q _ tk _ _ _ _ (ev.trans fp0 e2) R2 (fun x hx => by cases mem1 hx; exact fresh_of ev R1 (Nat.le_refl _)) (Iter.mlI (l := a) (I := h1.objs.size) hA.handled ht) ⟨⟨_, hI, rfl, rfl⟩, e2.role _ _ hT, TT.putP_in (by simp)⟩
      · cases h3
    · cases he
  unfold cSrc at hc
  split at hc
  · rename_i g0 p1 args pos
    split at hc
    · rename_i hg
      simp only [Bool.and_eq_true, decide_eq_true_eq] at hg
      obtain ⟨hg1, rfl⟩ := hg
      split at hc
      · cases hc
      · rename_i hst
        simp only [Bool.or_eq_true, not_or, Bool.not_eq_true, decide_eq_true_eq] at hst
        obtain ⟨ps, h1, rfl⟩ := Option.map_eq_some_iff.mp hc
        have ht : ∀ it v, letOwnedTupleGo t it v = pure () := by
          cases tg <;> try (simp [tgSrc] at hts; done)
          exact letGo_var htg
        simp only [srcS] at he
        split at he
        · rename_i vs st1 e1
          obtain ⟨xs, h2, h3⟩ := Option.map_eq_some_iff.mp he
          cases h3
          refine wpAny_Call_Name_kw (glob_blt G hg1 X R (y := .type "range") (by decide +kernel) ?_)
          refine callWith_of (P := fun _ => True) (by show ((backTo pos (starEach args env)).any (·.1) || false) = false; rw [backTo_plain (starEach_plain hst.1)]; rfl) (fun h _ => keeps_any (f := .type _) (fun _ q => by cases q) _ h) (evalArgs_ok (backTo_plain (starEach_plain hst.1)) ?_)
          refine evL_ok S hA hst.1 h1 X R e1 fun h' tk T' ys ev R' rv => ⟨trivial, ?_⟩
          rw [List.nil_append]
          unfold rangeS at h2
          split at h2
          · rename_i b
            split at h2
            · rename_i hb
              cases h2
              match ys, rv with
              | [_], ⟨⟨tb, rfl⟩, _⟩ =>
                refine call_range_1 (s := { s with heap := h', toks := tk }) ?_
                have k := push_keeps h' { cls := .type "range", data := .fields #[.int 0 tk, .int b tb, .int 1 (tk + 1)] }
                exact range_go (s := s) hA.handled ht (ev.trans fp0 (.grow k)) (R'.grow k) (IsRange.new ..) (small_up (by omega) (by omega) hb.1 hb.2) (by rw [size_up]; simp [rangeU]) (fun i hi => by
                  have hi' : i < (b - 0).toNat := by simpa [rangeU] using hi
                  unfold rangeU
                  rw [List.getElem?_map, List.getElem?_range hi']; simp) q
            · cases h2
          · rename_i a b
            split at h2
            · rename_i hb
              cases h2
              match ys, rv with
              | [_, _], ⟨⟨ta, rfl⟩, ⟨tb, rfl⟩, _⟩ =>
                refine call_range_2 (s := { s with heap := h', toks := tk }) ?_
                have k := push_keeps h' { cls := .type "range", data := .fields #[.int a ta, .int b tb, .int 1 tk] }
                exact range_go (s := s) hA.handled ht (ev.trans fp0 (.grow k)) (R'.grow k) (IsRange.new ..) (small_up hb.1 hb.2.1 hb.2.2.1 hb.2.2.2) (by rw [size_up]; simp [rangeU]) (fun i hi => by
                  have hi' : i < (b - a).toNat := by simpa [rangeU] using hi
                  unfold rangeU
                  rw [List.getElem?_map, List.getElem?_range hi']; simp) q
            · cases h2
          · rename_i a b
            split at h2
            · rename_i hb
              cases h2
              match ys, rv with
              | [_, _, _], ⟨⟨ta, rfl⟩, ⟨tb, rfl⟩, ⟨tc, rfl⟩, _⟩ =>
                refine call_range_3 (s := { s with heap := h', toks := tk }) (by decide) ?_ (.inl pylong_neg)
                have k := push_keeps h' { cls := .type "range", data := .fields #[.int a ta, .int b tb, .int (-1) tc] }
                exact range_go (s := s) hA.handled ht (ev.trans fp0 (.grow k)) (R'.grow k) (IsRange.new ..) (small_down hb.1 hb.2.1 hb.2.2.1 hb.2.2.2) (by rw [size_down]; simp [rangeD]) (fun i hi => by
                  have hi' : i < (a - b).toNat := by simpa [rangeD] using hi
                  unfold rangeD
                  rw [List.getElem?_map, List.getElem?_range hi']; simp; omega) q
            · cases h2
          · cases h2
        · cases he
    · split at hc
      · rename_i hg
        simp only [Bool.and_eq_true, decide_eq_true_eq] at hg
        obtain ⟨hg1, rfl⟩ := hg
        split at hc
        · rename_i e0
          split at hc
          · cases hc
          · rename_i hst
            obtain ⟨p, h1, rfl⟩ := Option.map_eq_some_iff.mp hc
            have hst' : isStar e0 = false := by simpa using hst
            have hS : ([e0] : List Expr).any isStar = false := by rw [List.any_cons, hst']; rfl
            simp only [srcS] at he
            split at he
            · rename_i xs st1 e1
              split at he
              · cases he
                refine wpAny_Call_Name_kw (glob_blt G hg1 X R (y := .type "enumerate") (by decide +kernel) ?_)
                refine callWith_of (P := fun _ => True) (by show ((backTo pos (starEach [e0] env)).any (·.1) || false) = false; rw [backTo_plain (starEach_plain hS)]; rfl) (fun h _ => keeps_any (f := .type _) (fun _ q => by cases q) _ h) (evalArgs_ok (backTo_plain (starEach_plain hS)) ?_)
                refine wpAny_items_cons (S.E h1 X hA R e1 fun h1 tk T1 y ev R1 ry => wpAny_items_nil ⟨trivial, ?_⟩) (starEach_cons hst')
                obtain ⟨a, ys, rfl, hT, hl, rv⟩ := ry
                obtain ⟨no, ho⟩ := id hl
                refine call_enumerate_list (s := { s with heap := h1, toks := tk }) hl.isList fun h2 c1 c2 c3 c4 => ?_
                have alt : a < h1.objs.size := Heap.lt_size ho
                have n1 : h1.objs.size + 1 ≠ h1.objs.size := Nat.succ_ne_self _
                have n2 : h1.objs.size + 1 ≠ a := Nat.ne_of_gt (Nat.lt_succ_of_lt alt)
                have n3 : a ≠ h1.objs.size := Nat.ne_of_lt alt
                obtain ⟨R2, e2⟩ := R1.newPrivs (h' := h2) (F := fun x => x ∈ [h1.objs.size + 1, h1.objs.size]) (fun x hx => by
                  rcases List.mem_cons.mp hx with rfl | hx
                  · exact ⟨Nat.le_succ _, _, c1⟩
                  · cases mem1 hx; obtain ⟨o, ho, _⟩ := c2; exact ⟨Nat.le_refl _, o, ho⟩) c4
                have htt : ∃ es j tp, t = .Tuple es j tp := by
                  rcases cTg_inv htg with ⟨_, _, _, _, _, w⟩ | ⟨_, _, _, _, _, _, _, _, w⟩ | ⟨_, _, _, _, _, _, _, _, w⟩ | ⟨es, j, tp, ts, w, _⟩
                  · subst w; simp [tgSrc] at hts
                  · subst w; simp [tgSrc] at hts
                  · obtain ⟨_, w⟩ := w; subst w; simp [tgSrc] at hts
                  · exact ⟨es, j, tp, w⟩
                obtain ⟨es, j, tp, rfl⟩ := htt
                have I := Iter.enumI (g := g) (A := A) (es := es) (j := j) (tp := tp) (l := a) hA.handled n1 n2 n3 rv.length
                have P0 : ((∃ old, IsEnum h2 (h1.objs.size + 1) h1.objs.size ((0 : Nat) : Int) old) ∧ h2.IsListIter h1.objs.size a 0 ∧ h2.IsList a ys.toArray) ∧ Leans [h1.objs.size + 1, h1.objs.size, a] [h1.objs.size + 1, h1.objs.size] h2 (T1.putP fun x => x ∈ [h1.objs.size + 1, h1.objs.size]) ∧ VRs h2 (T1.putP fun x => x ∈ [h1.objs.size + 1, h1.objs.size]) xs ys ∧ 0 ≤ ys.toArray.size := by
                  refine ⟨⟨⟨_, c1⟩, c2, _, c4 _ _ ho, rfl, _, rfl⟩, ⟨fun x hx => TT.putP_in hx, fun x hx => ?_, fun x hx => ?_⟩, rv.pass e2, Nat.zero_le _⟩
                  · rcases List.mem_cons.mp hx with rfl | hx
                    · exact .inl (by simp)
                    · rcases List.mem_cons.mp hx with rfl | hx
                      · exact .inl (by simp)
                      · cases mem1 hx; exact .inr (by rw [TT.putP_out (by simp; exact ⟨fun q => n2 q.symm, n3⟩)]; exact hT)
                  · rcases List.mem_cons.mp hx with rfl | hx
                    · exact ⟨_, c1⟩
                    · rcases List.mem_cons.mp hx with rfl | hx
                      · obtain ⟨o, ho, _⟩ := c2; exact ⟨o, ho⟩
                      · cases mem1 hx; exact ⟨_, c4 _ _ ho⟩
                refine I.self (i := 0) (s := { s with heap := h2, toks := tk }) (T := T1.putP fun x => x ∈ [h1.objs.size + 1, h1.objs.size]) P0 ?_
                exact q _ tk _ _ _ _ (ev.trans fp0 e2) R2 (fun x hx => fresh_of ev R1 (by
                  rcases List.mem_cons.mp hx with rfl | hx
                  · exact Nat.le_succ _
                  · cases mem1 hx; exact Nat.le_refl _)) I P0
              · cases he
            · cases he
        · cases hc
      · obtain ⟨p, h1, rfl⟩ := Option.map_eq_some_iff.mp hc
        refine valCase (p := p) ?_ rfl
        rw [← h1]
        cases m <;> rfl
  · split at hc
    · cases hc
    · obtain ⟨p, h1, rfl⟩ := Option.map_eq_some_iff.mp hc
      exact valCase h1 rfl
end
end Mux
namespace Mux
open PySem PySem.W

/-! loops, turn by turn -/
inductive ForI (P : Prog) (r : Rec) (t : Tg) (b : List PS) (get : Get) (fl : Fl) (lE : Loc) (stE : St) : Nat → Nat → Loc → St → Prop
  | done {k j} : get stE j = some none → fl = .next → ForI P r t b get fl lE stE k j lE stE
  | step {k j l st v l1 st1 l2 st2} : get st j = some (some v) → Mux.assign P r t v l st = some (l1, st1) → exB r b l1 st1 = some (.next, l2, st2) → ForI P r t b get fl lE stE k (j + 1) l2 st2 → ForI P r t b get fl lE stE (k + 1) j l st
  | ret {k j l st v l1 st1 w} : get st j = some (some v) → Mux.assign P r t v l st = some (l1, st1) → exB r b l1 st1 = some (.ret w, lE, stE) → fl = .ret w → ForI P r t b get fl lE stE (k + 1) j l st

theorem forL_to {P : Prog} {r : Rec} {t : Tg} {b : List PS} {fl : Fl} {lE : Loc} {stE : St} {xs : List V} : ∀ {ys : List V} {j : Nat} {l : Loc} {st : St}, xs.drop j = ys → forL P r t b ys l st = some (fl, lE, stE) → ForI P r t b (getItems xs) fl lE stE ys.length j l st
  | [], j, l, st, hd, h => by
    simp only [forL] at h
    cases h
    refine .done ?_ rfl
    simp only [getItems, Option.some.injEq]
    exact List.getElem?_eq_none (List.drop_eq_nil_iff.mp hd)
  | y :: ys, j, l, st, hd, h => by
    have hg : getItems xs st j = some (some y) := by
      simp only [getItems, Option.some.injEq]
      have : (xs.drop j)[0]? = some y := by rw [hd]; rfl
      simpa using this
    have hd' : xs.drop (j + 1) = ys := by
      have : (xs.drop j).drop 1 = ys := by rw [hd]; rfl
      rwa [List.drop_drop] at this
    simp only [forL] at h
    split at h
    · cases h
    · rename_i l1 st1 e1
      split at h
      · rename_i l2 st2 e2
        exact .step hg e1 e2 (forL_to hd' h)
      · rename_i hne
        cases fl with
        | next => exact absurd h (hne _ _)
        | ret w => exact .ret hg e1 h rfl
theorem forM_to {P : Prog} {r : Rec} {t : Tg} {b : List PS} {fl : Fl} {lE : Loc} {stE : St} {kk : Nat} : ∀ {n j : Nat} {l : Loc} {st : St}, forM P r t b kk n j l st = some (fl, lE, stE) → ForI P r t b (getPlace kk) fl lE stE n j l st
  | 0, j, l, st, h => by simp only [forM] at h; cases h
  | n + 1, j, l, st, h => by
    simp only [forM] at h
    split at h
    · cases h
    · rename_i xs hx
      have hp : getPlace kk st j = some xs[j]? := by unfold getPlace; rw [hx]; rfl
      split at h
      · rename_i hn
        cases h
        exact .done (hp.trans (by rw [hn])) rfl
      · rename_i y hy
        split at h
        · cases h
        · rename_i l1 st1 e1
          split at h
          · rename_i l2 st2 e2
            exact .step (hp.trans (by rw [hy])) e1 e2 (forM_to h)
          · rename_i hne
            cases fl with
            | next => exact absurd h (hne _ _)
            | ret w => exact .ret (hp.trans (by rw [hy])) e1 h rfl

theorem Evo.transNew {F G : Addr → Prop} {h0 h h' : Heap} {T0 T T' : TT} (p : FP G T0) (hF : ∀ a, F a → h0.get? a = none ∧ T0 a = none) (e : Evo G h0 T0 h T) (e' : Evo (Or2 F G) h T h' T') : Evo G h0 T0 h' T' := by
  refine ⟨fun a r x => e'.role a r (e.role a r x), fun a ha hn => ?_, fun a o ho hp hg => ?_⟩
  · cases hT : T a with
    | some r => exact e.fresh a ha (by rw [hT]; exact nofun)
    | none =>
      have h1 := e'.fresh a hT hn
      cases hg : h0.get? a with
      | none => rfl
      | some o =>
        have := e.keep a o hg (fun r x => by rw [ha] at x; cases x) (fun hf => by have := p a hf; rw [ha] at this; cases this)
        rw [h1] at this; cases this
  · refine e'.keep a o (e.keep a o ho hp hg) (fun r hr => ?_) fun hf => ?_
    · cases hT : T0 a with
      | some r' => have := e.role a r' hT; rw [hr] at this; cases this; exact hp _ hT
      | none => have := e.fresh a hT (by rw [hr]; exact nofun); rw [ho] at this; cases this
    · rcases hf with q | q
      · rw [(hF a q).1] at ho; cases ho
      · exact hg q
theorem away_new {F : Addr → Prop} {env : Env} {ks : Ks} {h : Heap} {T : TT} {l : Loc} (X : FrOk env ks h T l) (hF : ∀ a, F a → T a = none) : Away F env ks ∧ Off F (Fenv env ks) := by
  refine ⟨⟨fun hf => ?_, fun x c h1 h2 hf => ?_⟩, fun a hf hg => ?_⟩
  · have := hF _ hf; rw [X.priv] at this; cases this
  · have := hF _ hf
    obtain ⟨c', h3, h4, _⟩ := X.cell x h1
    rw [h2] at h3; cases h3
    rw [h4] at this; cases this
  · have := hF _ hf; rw [X.fp a hg] at this; cases this

/-! while -/
inductive WhI (P : Prog) (c : PE) (b : List PS) (fl : Fl) (lE : Loc) (stE : St) : Nat → Loc → St → Prop
  | done {n st} : (ev P n).B c lE st = some (false, stE) → fl = .next → WhI P c b fl lE stE n lE st
  | step {n n' l st st1 l2 st2} : (ev P n).B c l st = some (true, st1) → exB (ev P n) b l st1 = some (.next, l2, st2) → n' < n → WhI P c b fl lE stE n' l2 st2 → WhI P c b fl lE stE n l st
  | ret {n l st st1 w} : (ev P n).B c l st = some (true, st1) → exB (ev P n) b l st1 = some (.ret w, lE, stE) → fl = .ret w → WhI P c b fl lE stE n l st
theorem while_to {P : Prog} {c : PE} {b : List PS} {fl : Fl} {lE : Loc} {stE : St} : ∀ {n : Nat} {l : Loc} {st : St}, stepS P (ev P n) (.while c b) l st = some (fl, lE, stE) → WhI P c b fl lE stE n l st
  | n, l, st, h => by
    simp only [stepS] at h
    split at h
    · rename_i e1
      cases h
      exact .done e1 rfl
    · rename_i st1 e1
      split at h
      · rename_i l2 st2 e2
        cases n with
        | zero => cases h
        | succ n => exact .step e1 e2 (Nat.lt_succ_self _) (while_to h)
      · rename_i hne
        cases fl with
        | next => exact absurd h (hne _ _)
        | ret w => exact .ret e1 h rfl
    · cases h
  termination_by n => n

section
variable {g : Glb} {K : Frag} {fa : Nat → Addr} {A : Around} {E : Value → Shared → Prop} {s : Shared} {T : TT} {st st' : St} {env : Env} {ks : Ks} {l l' : Loc} {n m k : Nat} {r : Rec}

theorem for_ok (G : GOk g K fa) (S : Snd g n r) (hA : Rm A n) {t : Expr} {tg : Tg} {body : List Stmt} {bs : List PS} {I : Addr} {F : Addr → Prop} {get : Get} {P : Nat → Heap → TT → Prop} {R' : Result → Shared → Prop} {fl : Fl} (It : Iter g A t I F get P) (hbd : mapO (cS m k ks) body = some bs) (htg : cTg (cE m) ks t = some tg)
    (X0 : FrOk env ks s.heap T l) (hF : ∀ a, F a → s.heap.get? a = none ∧ T a = none) {h1 : Heap} {tk1 : Nat} {T1 : TT} {j kk : Nat} {l1 : Loc} {st1 : St} (e0 : Evo (Fenv env ks) s.heap T h1 T1) (R : Rp g h1 T1 st1) (X : FrOk env ks h1 T1 l1) (hP : P j h1 T1)
    (hf : ForI g.P r tg bs get fl l' st' kk j l1 st1) (q : ∀ h' tk T' f, Evo (Fenv env ks) s.heap T h' T' → Rp g h' T' st' → FrOk env ks h' T' l' → FlR h' T' fl f → R' (.ok f) { s with heap := h', toks := tk }) :
    codeAny g.M A (.forLoop t (.ref I) body [] env) R' { s with heap := h1, toks := tk1 } := by
  obtain ⟨aw, off⟩ := away_new X0 fun a h => (hF a h).2
  refine codeAny_forLoop_any (fun kk s' => ∃ h tk T' l2 st2 j, s' = { s with heap := h, toks := tk } ∧ Evo (Fenv env ks) s.heap T h T' ∧ Rp g h T' st2 ∧ FrOk env ks h T' l2 ∧ P j h T' ∧ ForI g.P r tg bs get fl l' st' kk j l2 st2) ?_ kk ⟨h1, tk1, T1, l1, st1, j, rfl, e0, R, X, hP, hf⟩
  rintro kk s' ⟨h, tk, T2, l2, st2, j, rfl, ev, R2, X2, hP2, hf2⟩
  have fpF := It.fp hP2
  cases hf2 with
  | done hg hfl =>
    subst hfl
    refine It.done (s := { s with heap := h, toks := tk }) hg hP2 R2 fun h' tk' hk => ?_
    show wpAny _ _ (execs [] env) _ _ _
    refine wpAny_execs_nil (q h' tk' (T2.dropF F) .next (ev.letGo hF hk) (R2.letGo fpF hk) (X2.letGo fpF aw hk) rfl)
  | @step kk' _ _ _ _ _ _ _ _ hg ha hb hrest =>
    refine wpAny_mono (It.item (s := { s with heap := h, toks := tk }) (F2 := Fenv env ks) (E := notedBy g.M A env fun e s' => R' (.error e) s') (Q := fun _ s₂ => wpAny g.M A (execs body env) (fun f s₃ => match f with
            | .next | .cont => ∃ m, m < kk' + 1 ∧ (fun kk s' => ∃ h tk T' l2 st2 j, s' = { s with heap := h, toks := tk } ∧ Evo (Fenv env ks) s.heap T h T' ∧ Rp g h T' st2 ∧ FrOk env ks h T' l2 ∧ P j h T' ∧ ForI g.P r tg bs get fl l' st' kk j l2 st2) m s₃
            | .brk => R' (.ok .next) s₃
            | .ret v => R' (.ok (.ret v)) s₃) (notedBy g.M A env fun e s' => R' (.error e) s') s₂) G S hA hg hP2 R2 X2 htg own_env X2.fp off aw ha fun h3 tk3 T3 e3 R3 X3 hP3 => ?_) (fun x s1 hx => ?_) fun _ _ y => y
    · refine exB_ok (s := { s with heap := h3, toks := tk3 }) S hA hbd X3 R3 hb fun h4 tk4 T4 f e4 R4 X4 hfl => ?_
      cases hfl
      refine ⟨_, Nat.lt_succ_self _, h4, tk4, T4, _, _, _, rfl, ?_, R4, X4, It.keep hP3 X3.fp off e4, hrest⟩
      exact ((Evo.transNew X0.fp hF ev e3).trans X0.fp e4)
    · obtain ⟨y, rfl, hy⟩ := hx
      exact hy
  | @ret kk' _ _ _ _ _ _ w hg ha hb hfl =>
    subst hfl
    refine wpAny_mono (It.item (s := { s with heap := h, toks := tk }) (F2 := Fenv env ks) (E := notedBy g.M A env fun e s' => R' (.error e) s') (Q := fun _ s₂ => wpAny g.M A (execs body env) (fun f s₃ => match f with
            | .next | .cont => ∃ m, m < kk' + 1 ∧ (fun kk s' => ∃ h tk T' l2 st2 j, s' = { s with heap := h, toks := tk } ∧ Evo (Fenv env ks) s.heap T h T' ∧ Rp g h T' st2 ∧ FrOk env ks h T' l2 ∧ P j h T' ∧ ForI g.P r tg bs get (.ret w) l' st' kk j l2 st2) m s₃
            | .brk => R' (.ok .next) s₃
            | .ret v => R' (.ok (.ret v)) s₃) (notedBy g.M A env fun e s' => R' (.error e) s') s₂) G S hA hg hP2 R2 X2 htg own_env X2.fp off aw ha fun h3 tk3 T3 e3 R3 X3 hP3 => ?_) (fun x s1 hx => ?_) fun _ _ y => y
    · refine exB_ok (s := { s with heap := h3, toks := tk3 }) S hA hbd X3 R3 hb fun h4 tk4 T4 f e4 R4 X4 hfl => ?_
      obtain ⟨y, rfl, hy⟩ := hfl
      exact q h4 tk4 T4 _ ((Evo.transNew X0.fp hF ev e3).trans X0.fp e4) R4 X4 ⟨y, rfl, hy⟩
    · obtain ⟨y, rfl, hy⟩ := hx
      exact hy

theorem while_ok (hS : ∀ j ≤ n, Snd g j (ev g.P j)) (hA : Rm A n) {test : Expr} {c : PE} {body : List Stmt} {bs : List PS} {R' : Result → Shared → Prop} {fl : Fl} (hbd : mapO (cS m k ks) body = some bs) (hc : cE m ks test = some c) (X : FrOk env ks s.heap T l) (R : Rp g s.heap T st)
    (hw : WhI g.P c bs fl l' st' n l st) (q : ∀ h' tk T' f, Evo (Fenv env ks) s.heap T h' T' → Rp g h' T' st' → FrOk env ks h' T' l' → FlR h' T' fl f → R' (.ok f) { s with heap := h', toks := tk }) :
    codeAny g.M A (.whileLoop test body [] env) R' s := by
  refine codeAny_whileLoop (fun kk s' => ∃ h tk T' l2 st2, s' = { s with heap := h, toks := tk } ∧ Evo (Fenv env ks) s.heap T h T' ∧ Rp g h T' st2 ∧ FrOk env ks h T' l2 ∧ kk ≤ n ∧ WhI g.P c bs fl l' st' kk l2 st2) ?_ n ⟨s.heap, s.toks, T, l, st, rfl, .refl, R, X, Nat.le_refl _, hw⟩
  rintro kk s' ⟨h, tk, T2, l2, st2, rfl, e, R2, X2, hle, hw2⟩
  have S := hS kk hle
  have hA' := hA.less hle
  cases hw2 with
  | done hb hfl =>
    subst hfl
    refine S.B (s := { s with heap := h, toks := tk }) hc X2 hA' R2 hb fun h3 tk3 T3 e3 R3 => ?_
    show wpAny _ _ (execs [] env) _ _ _
    have e4 := e.trans X.fp (e3.mono fun _ h => h.elim)
    exact wpAny_execs_nil (q h3 tk3 T3 .next e4 R3 (X2.pass e3) rfl)
  | step hb hx hlt hrest =>
    refine S.B (s := { s with heap := h, toks := tk }) hc X2 hA' R2 hb fun h3 tk3 T3 e3 R3 => ?_
    show wpAny _ _ (execs body env) _ _ _
    refine exB_ok (s := { s with heap := h3, toks := tk3 }) S hA' hbd (X2.pass e3) R3 hx fun h4 tk4 T4 f e4 R4 X4 hfl => ?_
    cases hfl
    exact ⟨_, hlt, h4, tk4, T4, _, _, rfl, (e.trans X.fp (e3.mono fun _ h => h.elim)).trans X.fp e4, R4, X4, by omega, hrest⟩
  | ret hb hx hfl =>
    subst hfl
    refine S.B (s := { s with heap := h, toks := tk }) hc X2 hA' R2 hb fun h3 tk3 T3 e3 R3 => ?_
    show wpAny _ _ (execs body env) _ _ _
    refine exB_ok (s := { s with heap := h3, toks := tk3 }) S hA' hbd (X2.pass e3) R3 hx fun h4 tk4 T4 f e4 R4 X4 hfl => ?_
    obtain ⟨y, rfl, hy⟩ := hfl
    exact q h4 tk4 T4 _ ((e.trans X.fp (e3.mono fun _ h => h.elim)).trans X.fp e4) R4 X4 ⟨y, rfl, hy⟩
end
end Mux
namespace Mux
open PySem PySem.W

inductive CompI (P : Prog) (r : Rec) (elt : PE) (t : Tg) (c : Option PE) (l : Loc) (get : Get) (stE : St) : Nat → Nat → St → List V → Prop
  | done {k j} : get stE j = some none → CompI P r elt t c l get stE k j stE []
  | step {k j st v y st1 ys} : get st j = some (some v) → compBody P r elt t c l v st = some (y, st1) → CompI P r elt t c l get stE k (j + 1) st1 ys → CompI P r elt t c l get stE (k + 1) j st (y.toList ++ ys)
theorem compL_to {P : Prog} {r : Rec} {elt : PE} {t : Tg} {c : Option PE} {l : Loc} {stE : St} {xs : List V} : ∀ {zs : List V} {j : Nat} {st : St} {ys : List V}, xs.drop j = zs → compL P r elt t c l zs st = some (ys, stE) → CompI P r elt t c l (getItems xs) stE zs.length j st ys
  | [], j, st, ys, hd, h => by
    simp only [compL] at h
    cases h
    refine .done ?_
    simp only [getItems, Option.some.injEq]
    exact List.getElem?_eq_none (List.drop_eq_nil_iff.mp hd)
  | z :: zs, j, st, ys, hd, h => by
    have hg : getItems xs st j = some (some z) := by
      simp only [getItems, Option.some.injEq]
      have : (xs.drop j)[0]? = some z := by rw [hd]; rfl
      simpa using this
    have hd' : xs.drop (j + 1) = zs := by
      have : (xs.drop j).drop 1 = zs := by rw [hd]; rfl
      rwa [List.drop_drop] at this
    simp only [compL] at h
    split at h
    · cases h
    · rename_i y st1 e1
      split at h
      · cases h
      · rename_i ys' st2 e2
        cases h
        exact .step hg e1 (compL_to hd' e2)
theorem compM_to {P : Prog} {r : Rec} {elt : PE} {t : Tg} {c : Option PE} {l : Loc} {stE : St} {kk : Nat} : ∀ {n j : Nat} {st : St} {ys : List V}, compM P r elt t c l kk n j st = some (ys, stE) → CompI P r elt t c l (getPlace kk) stE n j st ys
  | 0, j, st, ys, h => by simp only [compM] at h; cases h
  | n + 1, j, st, ys, h => by
    simp only [compM] at h
    split at h
    · cases h
    · rename_i xs hx
      have hp : getPlace kk st j = some xs[j]? := by unfold getPlace; rw [hx]; rfl
      split at h
      · rename_i hn
        cases h
        exact .done (hp.trans (by rw [hn]))
      · rename_i y hy
        split at h
        · cases h
        · rename_i z st1 e1
          split at h
          · cases h
          · rename_i ys' st2 e2
            cases h
            exact .step (hp.trans (by rw [hy])) e1 (compM_to e2)

/-! the scope of a comprehension -/
theorem relabel_eq {scope : Scope} {env : Env} {ks : Ks} (hk : env.scope.kind = .function) (hn : env.scope.names = ks) : (relabel scope env).names = relabelK ks scope.names := by
  unfold relabel relabelK
  refine List.map_congr_left fun p _ => ?_
  obtain ⟨n, k⟩ := p
  dsimp only
  have e : env.kindOf n = ks.lookup n := by unfold Env.kindOf; rw [hn]
  rw [e, hk]
  cases k <;> cases hl : ks.lookup n with
  | none => rfl
  | some j => cases j <;> rfl
theorem mem_relabel {ks : Ks} {x : Str} {names : Ks} {j : NameKind} (h : (x, j) ∈ relabelK ks names) : (x, j) ∈ names ∨ (j = .cell ∧ (x, .free) ∈ names ∧ ks.lookup x = some .cell) := by
  unfold relabelK at h
  obtain ⟨p, hp, e⟩ := List.mem_map.mp h
  split at e
  · rename_i q
    cases e
    obtain ⟨a, b⟩ := p
    obtain ⟨q1, q2⟩ := q
    dsimp only at q1 q2
    subst q1
    exact .inr ⟨rfl, hp, q2⟩
  · subst e; exact .inl hp
theorem local_relabel {ks : Ks} {x : Str} : ∀ {names : Ks}, names.lookup x = some .local → (relabelK ks names).lookup x = some .local
  | [], h => by simp at h
  | (n, k) :: r, h => by
    have ih := @local_relabel ks x r
    show List.lookup x ((if k = .free ∧ ks.lookup n = some .cell then (n, NameKind.cell) else (n, k)) :: relabelK ks r) = _
    rw [List.lookup_cons] at h
    by_cases q : x == n
    · simp only [q] at h
      cases h
      rw [if_neg (by simp), List.lookup_cons]; simp only [q]
    · simp only [q] at h
      split <;> (rw [List.lookup_cons]; simp only [q]; exact ih h)

theorem nm_empty : Str.empty ∉ nm := by decide +kernel
theorem ofCode_big {k : Nat} (h : ¬ k < nm.length) : ofCode nm k = Str.empty := by unfold ofCode; rw [List.getD_eq_getElem?_getD, List.getElem?_eq_none (by omega), Option.getD_none]
theorem code_inj {k c : Nat} (h : code (ofCode nm k) = some c) : c = k ∧ k < nm.length := by
  obtain ⟨h1, h2⟩ := code_spec h
  by_cases q : k < nm.length
  · exact ⟨ofCode_inj h1 q h2, q⟩
  · rw [ofCode_big q] at h2
    exact absurd (h2 ▸ nm_mem h1) nm_empty

structure CompSc (ks : Ks) (scope : Scope) (vars : List Nat) : Prop where
  kind : scope.kind = .function
  nocell : ∀ y ∈ scope.names, y.2 ≠ .cell
  loc : ∀ k, (ofCode nm k, NameKind.local) ∈ scope.names → vars.contains k = true
  locs : ∀ y ∈ scope.names, y.2 = .local → scope.names.lookup y.1 = some .local
  free : ∀ x, (x, NameKind.free) ∈ scope.names → ks.lookup x = some .cell
  vars : ∀ c ∈ vars, scope.names.lookup (ofCode nm c) = some .local
theorem dot0 : ((".0" : Str)) ∉ nm := by decide +kernel
theorem dot0e : ¬ ((".0" : Str)) = Str.empty := by decide +kernel
theorem compSc_of {ks : Ks} {scope : Scope} {vs : List Nat} (h : compScopeOk ks scope vs = true) : CompSc ks scope vs := by
  unfold compScopeOk at h
  simp only [Bool.and_eq_true, decide_eq_true_eq, List.all_eq_true] at h
  obtain ⟨⟨h1, h2⟩, h3⟩ := h
  refine ⟨h1, fun y hy e => ?_, fun k hk => ?_, fun y hy e => ?_, fun x hx => ?_, h3⟩
  · have := h2 y hy; rw [e] at this; cases this
  · have := h2 _ hk
    dsimp only at this
    rw [Bool.or_eq_true] at this
    rcases this with q | q
    · have q' := beq_iff_eq.mp (Bool.and_eq_true_iff.mp q).1
      by_cases hlt : k < nm.length
      · exact absurd (q' ▸ nm_mem hlt) dot0
      · rw [ofCode_big hlt] at q'; exact absurd q'.symm dot0e
    · split at q
      · rename_i c hc
        simp only [Bool.and_eq_true] at q
        obtain ⟨rfl, _⟩ := code_inj hc
        exact q.1
      · cases q
  · obtain ⟨x, k⟩ := y
    dsimp only at e; subst e
    have := h2 _ hy
    dsimp only at this ⊢
    rw [Bool.or_eq_true] at this
    rcases this with q | q
    · exact of_decide_eq_true (Bool.and_eq_true_iff.mp q).2
    · split at q
      · simp only [Bool.and_eq_true, decide_eq_true_eq] at q
        exact q.2
      · cases q
  · have := h2 _ hx
    simpa using this

theorem closure_ok {env : Env} : ∀ {names : List (Str × NameKind)} {cs : List (Str × Addr)}, (∀ x, (x, NameKind.free) ∈ names → ∃ c, env.cells.lookup x = some c) →
    ∃ cl, (forIn names cs fun (p : Str × NameKind) (r : List (Str × Addr)) => (if (p.2 == NameKind.free) = true then do let c ← cellOf env p.1; pure (ForInStep.yield ((p.1, c) :: r)) else pure (ForInStep.yield r) : Sem (ForInStep (List (Str × Addr))))) = pure cl ∧
      ∀ x, ((x, NameKind.free) ∈ names → cl.lookup x = env.cells.lookup x) ∧ (cs.lookup x = env.cells.lookup x → cl.lookup x = env.cells.lookup x)
  | [], cs, _ => ⟨cs, by simp, fun x => ⟨nofun, id⟩⟩
  | (n, k) :: r, cs, h => by
    have hr : ∀ x, (x, NameKind.free) ∈ r → ∃ c, env.cells.lookup x = some c := fun x hx => h x (.tail _ hx)
    rw [List.forIn_cons]
    by_cases q : k = .free
    · subst q
      obtain ⟨c, hc⟩ := h n (.head _)
      obtain ⟨cl, h1, h2⟩ := closure_ok (cs := (n, c) :: cs) hr
      refine ⟨cl, ?_, fun x => ⟨fun hx => ?_, fun hx => ?_⟩⟩
      · simp only [beq_self_eq_true, if_true]
        have : cellOf env n = pure c := by unfold cellOf; rw [hc]
        rw [this]
        simp only [pure_bind]
        exact h1
      · rcases List.mem_cons.mp hx with e | hx
        · cases e
          refine (h2 n).2 ?_
          rw [List.lookup_cons, beq_self_eq_true]; exact hc.symm
        · exact (h2 x).1 hx
      · refine (h2 x).2 ?_
        rw [List.lookup_cons]
        by_cases e : x == n
        · simp only [e]; rw [beq_iff_eq.mp e]; exact hc.symm
        · simp only [e]; exact hx
    · obtain ⟨cl, h1, h2⟩ := closure_ok (cs := cs) hr
      refine ⟨cl, ?_, fun x => ⟨fun hx => ?_, (h2 x).2⟩⟩
      · have : (k == NameKind.free) = false := beq_eq_false_iff_ne.mpr q
        simp only [this, Bool.false_eq_true, if_false, pure_bind]
        exact h1
      · rcases List.mem_cons.mp hx with e | hx
        · cases e; exact absurd rfl q
        · exact (h2 x).1 hx
theorem closureFor_ok {env : Env} {scope : Scope} (h : ∀ x, (x, NameKind.free) ∈ scope.names → ∃ c, env.cells.lookup x = some c) : ∃ cl, closureFor scope env = pure cl ∧ ∀ x, (x, NameKind.free) ∈ scope.names → cl.lookup x = env.cells.lookup x := by
  obtain ⟨cl, h1, h2⟩ := closure_ok (cs := []) h
  refine ⟨cl, ?_, fun x => (h2 x).1⟩
  unfold closureFor
  exact (congrArg (fun t => t >>= fun cs => pure cs) h1).trans (by simp)

/-! a target changes no other name -/
mutual
theorem assign_other {P : Prog} {r : Rec} : ∀ (t : Tg) {v : V} {l l' : Loc} {st st' : St} {k : Nat}, Mux.assign P r t v l st = some (l', st') → k ∉ t.vars → lget k l' = lget k l
  | .var x, v, l, l', st, st', k, h, hk => by
    simp only [Mux.assign] at h
    cases h
    rw [lget_upd, if_neg (by simpa [Tg.vars] using hk)]
  | .attr e a, v, l, l', st, st', k, h, hk => by
    simp only [Mux.assign] at h
    split at h
    · obtain ⟨_, _, e⟩ := Option.map_eq_some_iff.mp h; cases e; rfl
    · cases h
  | .idx e i, v, l, l', st, st', k, h, hk => by
    simp only [Mux.assign] at h
    split at h
    · split at h
      · obtain ⟨_, _, e⟩ := Option.map_eq_some_iff.mp h; cases e; rfl
      · cases h
    · cases h
  | .tup ts, v, l, l', st, st', k, h, hk => by
    simp only [Mux.assign] at h
    split at h
    · split at h
      · exact assigns_other ts h (by simpa [Tg.vars] using hk)
      · cases h
    · cases h
theorem assigns_other {P : Prog} {r : Rec} : ∀ (ts : List Tg) {vs : List V} {l l' : Loc} {st st' : St} {k : Nat}, Mux.assigns P r ts vs l st = some (l', st') → k ∉ Tg.varsL ts → lget k l' = lget k l
  | [], vs, l, l', st, st', k, h, hk => by
    cases vs with
    | nil => simp only [Mux.assigns] at h; cases h; rfl
    | cons _ _ => simp only [Mux.assigns] at h; cases h
  | t :: ts, vs, l, l', st, st', k, h, hk => by
    cases vs with
    | nil => simp only [Mux.assigns] at h; cases h
    | cons v vs =>
      simp only [Mux.assigns] at h
      simp only [Tg.varsL, List.mem_append, not_or] at hk
      split at h
      · rename_i l1 st1 e1
        rw [assigns_other ts h hk.2, assign_other t e1 hk.1]
      · cases h
end

section
variable {g : Glb} {K : Frag} {fa : Nat → Addr} {A : Around} {E : Value → Shared → Prop} {s : Shared} {T : TT} {st st' : St} {env : Env} {ks : Ks} {l l' : Loc} {n m : Nat} {r : Rec} {Q : Value → Shared → Prop}

theorem codeAny_compLoop_gen {elt target iter : Expr} {ifs : List Expr} {scope : Scope} {pos : Pos} {it acc : Value} {env : Env} {R : Result → Shared → Prop} (I : Nat → Shared → Prop)
    (turn : ∀ n s, I n s → wpAny g.M A (pyNext it) (fun r s₁ => match r with
      | none => R (.ok .next) s₁
      | some v => wpAny g.M A (letOwnedTupleGo target it v) (fun _ s₁' => wpAny g.M A (PySem.assign target env v) (fun _ s₂ =>
          wpAny g.M A (forIn ifs true fun c r => if r = true then do let ok ← isTrue c env (eval c env); pure (ForInStep.yield ok) else pure (ForInStep.yield r)) (fun ok s₃ =>
            if ok = true then wpAny g.M A (eval elt env) (fun x s₄ =>
              wpAny g.M A (call (.builtin "list.append") [acc, x]) (fun _ s₅ => ∃ m, m < n ∧ I m s₅) (notedBy g.M A env fun e s' => R (.error e) s') s₄) (notedBy g.M A env fun e s' => R (.error e) s') s₃
            else ∃ m, m < n ∧ I m s₃) (notedBy g.M A env fun e s' => R (.error e) s') s₂) (notedBy g.M A env fun e s' => R (.error e) s') s₁') (notedBy g.M A env fun e s' => R (.error e) s') s₁) (notedBy g.M A env fun e s' => R (.error e) s') s)
    (n : Nat) (h : I n s) : codeAny g.M A (.compLoop (.ListComp elt [⟨target, iter, ifs, 0⟩] scope pos) 0 it acc env) R s := by
  refine codeAny_loop rfl I (fun n s hI => ?_) n h
  show wpAny _ _ ((compTurn (.ListComp elt [⟨target, iter, ifs, 0⟩] scope pos) 0 it acc env).onRaise (fun x => do noteFrame x env; theTreesLotGoes x)) _ _ s
  refine wpAny_noted ?_
  rw [compTurn_list]
  refine wpAny_bind (wpAny_standAt (wpAny_bind (wpAny_mono (turn n s hI) (fun r s₁ h₁ => ?_) fun _ _ h' => h')))
  cases r with
  | none => exact wpAny_pure h₁
  | some v =>
    refine wpAny_bind (wpAny_mono h₁ (fun _ s₁' h₁' => ?_) fun _ _ h' => h')
    refine wpAny_bind (wpAny_mono h₁' (fun _ s₂ h₂ => wpAny_bind (wpAny_mono h₂ (fun ok s₃ h₃ => ?_) fun _ _ h' => h')) fun _ _ h' => h')
    cases ok with
    | false => exact wpAny_pure ⟨rfl, h₃⟩
    | true => exact wpAny_bind (wpAny_bind (wpAny_mono h₃ (fun x s₄ h₄ => wpAny_bind (wpAny_mono h₄ (fun _ s₅ h₅ => wpAny_pure (wpAny_pure ⟨rfl, h₅⟩)) fun _ _ h' => h')) fun _ _ h' => h'))

/-- the tests of a comprehension: none, or one -/
def IfsR (f : Expr → Option PE) : List Expr → Option PE → Prop
  | [], none => True
  | [c], some p => f c = some p
  | _, _ => False

/-- what stands behind the loop of a comprehension -/
def CompQ (g : Glb) (s : Shared) (T : TT) (st' : St) (ys : List V) (RR : Value → Addr → Shared → Prop) : Prop :=
  ∀ h' tk T' D C, Evo F0 s.heap T h' T' → Rp g h' T' st' → VR h' T' (.list ys) (.ref D) → T' C = some .priv → T C = none → s.heap.get? C = none → (∃ m, h'.Ns C m) → RR (.ref D) C { s with heap := h', toks := tk }

theorem comp_ok (G : GOk g K fa) (S : Snd g n r) (hA : Rm A n) {elt t iter : Expr} {ifs : List Expr} {scope : Scope} {pos pos' : Pos} {tg : Tg} {src : Src} {pe : PE} {pc : Option PE} {ys : List V} {it : It} {st1 : St} {kk : Nat} {use : Option (Value → Sem Unit)} (X : FrOk env ks s.heap T l) (R : Rp g s.heap T st)
    (htg : cTg (cE m) (relabelK ks scope.names) t = some tg) (hsrc : cSrc (cE m) ks iter = some src) (hel : cE m (relabelK ks scope.names) elt = some pe) (hif : IfsR (cE m (relabelK ks scope.names)) ifs pc) (hsc : compScopeOk ks scope tg.vars = true) (hts : tgSrc tg src = true)
    (he1 : srcS r src l st = some (it, st1)) (hk : kk ≤ 5000) (he2 : CompI g.P r pe tg pc (lrm tg.vars l) (getOf it) st' kk 0 st1 ys)
    (q : CompQ g s T st' ys fun acc C s' => compPost g.M A E use Q acc C (.ok .next) s') :
    wpAny g.M A (comprehension (.ListComp elt [⟨t, iter, ifs, 0⟩] scope pos) scope env pos' (newList []) false (eval iter env) use) Q E s := by
  have C := compSc_of hsc
  obtain ⟨cl, hcl, hclx⟩ := closureFor_ok (env := env) (scope := scope) fun x hx => by
    obtain ⟨c, h1, _⟩ := X.cell x (C.free x hx)
    exact ⟨c, h1⟩
  refine wpAny_comprehension_free (g := ⟨t, iter, ifs, 0⟩) (gs := []) rfl (fun x => folded_pure (cSrc_plain hsrc)) hcl C.kind C.locs ?_
  refine src_ok G S hA hsrc htg hts X R he1 fun h1 tk1 T1 I F P ev R1 hnew It P0 => ?_
  -- the list that is filled
  have fpF := It.fp P0
  have newAddr : ∀ {h2 : Heap} {T2 : TT}, Evo F0 s.heap T h2 T2 → Rp g h2 T2 st1 → s.heap.get? h2.objs.size = none ∧ T h2.objs.size = none := fun ev R => fresh_of ev R (Nat.le_refl _)
  refine wpAny_newObj_type ?_ (by size_fits)
  have kD := push_keeps h1 { cls := .type "list", data := .seq ([] : List Value).toArray }
  have hD0 : (h1.push { cls := .type "list", data := .seq ([] : List Value).toArray }).PlainList h1.objs.size #[] := ⟨_, Heap.get?_push_size _ rfl⟩
  obtain ⟨R2, e2⟩ := R1.newPrivs (F := fun x => x ∈ [h1.objs.size]) (fun x hx => by cases mem1 hx; obtain ⟨_, ho⟩ := hD0; exact ⟨Nat.le_refl _, _, ho⟩) kD
  generalize hH2 : h1.push { cls := .type "list", data := .seq ([] : List Value).toArray } = H2 at kD hD0 R2 e2 ⊢
  generalize hT2 : T1.putP (fun x => x ∈ [h1.objs.size]) = T2 at R2 e2
  have hDT : T2 h1.objs.size = some .priv := by rw [← hT2]; exact TT.putP_in (by simp)
  have hDnew := newAddr ev R1
  -- the frame of the comprehension
  refine wpAny_newFunctionEnv C.nocell (by intro y hy; simp at hy) (fun h3 hns hsb => ?_) C.kind
  dsimp only at hns hsb ⊢
  have kC : ∀ b o, H2.get? b = some o → h3.get? b = some o := fun b o e => hsb.extBut b o (Nat.ne_of_lt (Heap.lt_size e)) (Heap.get?_push_of_some _ e)
  obtain ⟨R3, e3⟩ := R2.newPrivs (F := fun x => x ∈ [H2.objs.size]) (fun x hx => by cases mem1 hx; obtain ⟨o, _, _, ho, _⟩ := hns; exact ⟨Nat.le_refl _, o, ho⟩) kC
  have ev2 : Evo F0 s.heap T H2 T2 := ev.trans fp0 e2
  have hCnew := newAddr ev2 R2
  have hDC : h1.objs.size ≠ H2.objs.size := by rw [← hH2, Heap.size_push]; exact Nat.ne_of_lt (Nat.lt_succ_self _)
  generalize hC : H2.objs.size = CA at hns hsb R3 e3 hCnew hDC
  generalize hDA : h1.objs.size = D at hD0 hDT hDnew hDC hT2
  generalize hT3 : T2.putP (fun x => x ∈ [CA]) = T3 at R3 e3
  have hCT : T3 CA = some .priv := by rw [← hT3]; exact TT.putP_in (by simp)
  have ev3 : Evo F0 s.heap T h3 T3 := ev2.trans fp0 e3
  have offD : Off F F0 := fun _ _ => id
  have P3 : P 0 h3 T3 := It.keep (It.keep P0 fp0 offD e2) fp0 offD e3
  have hD3 : h3.PlainList D #[] := by obtain ⟨m, ho⟩ := hD0; exact ⟨m, kC _ _ ho⟩
  have hDT3 := e3.role _ _ hDT
  have XO := X.pass ev3
  let ks' := relabelK ks scope.names
  have XC : FrOk (compEnvC scope cl CA env) ks' h3 T3 (lrm tg.vars l) := by
    have hcell : ∀ x, ks'.lookup x = some .cell → (x, NameKind.free) ∈ scope.names ∧ ks.lookup x = some .cell := fun x hx => by
      rcases mem_relabel (mem_of_lookup hx) with q | ⟨_, q1, q2⟩
      · exact absurd rfl (C.nocell _ q)
      · exact ⟨q1, q2⟩
    refine ⟨C.kind, relabel_eq X.kind X.names, X.glob, X.blt, hCT, ⟨_, hns, fun x v h4 h5 => ?_⟩, fun x hx => ?_, fun x y c h4 h5 h6 h7 => ?_⟩
    · exfalso
      rcases mem_relabel (mem_of_lookup h5) with q | ⟨q, _⟩
      · rw [lget_lrm, C.loc x q] at h4; cases h4
      · cases q
    · obtain ⟨h4, h5⟩ := hcell x hx
      obtain ⟨c, h6, h7, h8, u, h9, h10⟩ := XO.cell x h5
      refine ⟨c, (hclx x h4).trans h6, h7, fun e => ?_, u, h9, fun j w a b d => ?_⟩
      · have h6' : c = CA := e
        obtain ⟨c', k1, k2, _⟩ := X.cell x h5
        rw [h6] at k1; cases k1
        rw [h6', hCnew.2] at k2; cases k2
      · refine h10 j w a b ?_
        rw [lget_lrm] at d
        split at d
        · cases d
        · exact d
    · exact X.apart x y c (hcell x h4).2 (hcell y h5).2 ((hclx x (hcell x h4).1).symm.trans h6) ((hclx y (hcell y h5).1).symm.trans h7)
  have hFn : ∀ a, F a → T a = none := fun a ha => (hnew a ha).2
  have hFC : ¬ F CA := fun hf => by
    have := fpF CA hf
    have h6 : T1 CA = none := by
      rw [← hC]
      exact R1.new (by rw [← hH2, Heap.size_push]; exact Nat.le_succ _)
    rw [h6] at this; cases this
  have hFD : ¬ F D := fun hf => by
    have := fpF D hf
    rw [R1.new (by rw [hDA]; exact Nat.le_refl _)] at this; cases this
  have awF : Away F (compEnvC scope cl CA env) ks' := ⟨hFC, fun x c h4 h5 hf => by
    obtain ⟨c', h6, h7, _⟩ := XC.cell x h4
    rw [h5] at h6; cases h6
    rcases mem_relabel (mem_of_lookup h4) with q | ⟨_, q1, q2⟩
    · exact absurd rfl (C.nocell _ q)
    · obtain ⟨c', k1, k2, _⟩ := X.cell x q2
      have : c' = c := by have := (hclx x q1).symm.trans h5; rw [k1] at this; exact Option.some.inj this
      subst this
      rw [hFn _ hf] at k2; cases k2⟩
  have ownC : Own (fun a => a = CA) (compEnvC scope cl CA env) ks' tg.vars := ⟨rfl, fun x hx c h4 _ => by
    rw [local_relabel (C.vars x hx)] at h4; cases h4⟩
  have offC : Off F (fun a => a = CA) := fun a hf e => hFC (e ▸ hf)
  let GG : Addr → Prop := Or2 F (fun a => a = CA ∨ a = D)
  have gNew : ∀ a, GG a → s.heap.get? a = none ∧ T a = none := fun a ha => by
    rcases ha with q | rfl | rfl
    · exact hnew a q
    · exact hCnew
    · exact hDnew
  have toF0 : ∀ {h4 T4 h5 T5}, Evo F0 s.heap T h4 T4 → Evo GG h4 T4 h5 T5 → Evo F0 s.heap T h5 T5 := fun {h4 T4 h5 T5} a b => Evo.transNew (F := GG) (G := F0) fp0 gNew a (b.mono fun _ x => .inl x)
  -- the loop
  have loop : codeAny g.M A (.compLoop (.ListComp elt [⟨t, iter, ifs, 0⟩] scope pos) 0 (.ref I) (.ref D) (compEnvC scope cl CA env)) (compPost g.M A E use Q (.ref D) CA) { s with heap := h3, toks := tk1 + ([] : List (Str × Value)).length } := by
    refine codeAny_compLoop_gen (fun k2 s' => ∃ h tk T' st2 j zs xs rest, s' = { s with heap := h, toks := tk } ∧ Evo F0 s.heap T h T' ∧ Rp g h T' st2 ∧ FrOk (compEnvC scope cl CA env) ks' h T' (lrm tg.vars l) ∧ P j h T' ∧ T' D = some .priv ∧ T' CA = some .priv ∧ h.PlainList D (xs : List Value).toArray ∧ VRs h T' zs xs ∧ zs.length + k2 ≤ 5000 ∧
        CompI g.P r pe tg pc (lrm tg.vars l) (getOf it) st' k2 j st2 rest ∧ zs ++ rest = ys) ?_ kk ⟨h3, _, T3, st1, 0, [], [], ys, rfl, ev3, R3, XC, P3, hDT3, hCT, by simpa using hD3, trivial, by simpa using hk, he2, rfl⟩
    rintro k2 s' ⟨h, tk, T', st2, j, zs, xs, rest, rfl, e4, R4, X4, P4, hD4, hC4, hL4, hz, hlen, hci, hys⟩
    cases hci with
    | done hg =>
      refine It.done (s := { s with heap := h, toks := tk }) hg P4 R4 fun h5 tk5 hk5 => ?_
      have hk5' : ∀ b o, ¬ Or2 F (fun a => a = D) b → h.get? b = some o → h5.get? b = some o := fun b o nb => hk5 b o fun hf => nb (.inl hf)
      have fpFD : FP (Or2 F (fun a => a = D)) T' := (It.fp P4).or fun a ha => by cases ha; exact hD4
      have hN : ∀ a, Or2 F (fun a => a = D) a → s.heap.get? a = none ∧ T a = none := fun a ha => ha.elim (hnew a) fun e => e ▸ hDnew
      refine q h5 tk5 (T'.dropF (Or2 F fun a => a = D)) D CA (e4.letGo hN hk5') (R4.letGo fpFD hk5') ?_ ?_ hCnew.2 hCnew.1 ?_
      · rw [← hys, List.append_nil]
        obtain ⟨mm, ho⟩ := hL4
        exact ⟨D, xs, rfl, TT.dropF_in (.inr rfl), ⟨mm, hk5 _ _ hFD ho⟩, VRs.letGo fpFD hk5' zs hz⟩
      · rw [TT.dropF_out fun hf => hf.elim hFC fun e => hDC e.symm]; exact hC4
      · obtain ⟨mm, hn, _⟩ := X4.ns
        exact ⟨mm, hn.at' fun o ho => hk5 _ _ hFC ho⟩
    | @step k3 _ _ v y st3 rest' hg hb hrest =>
      unfold compBody at hb
      split at hb
      · cases hb
      · rename_i l5 st5 ha
        refine wpAny_mono (It.item (s := { s with heap := h, toks := tk }) (F2 := fun a => a = CA) (E := notedBy g.M A (compEnvC scope cl CA env) fun e s' => compPost g.M A E use Q (.ref D) CA (.error e) s')
          (Q := fun _ s₂ => wpAny g.M A (forIn ifs true fun c r => if r = true then do let ok ← isTrue c (compEnvC scope cl CA env) (eval c (compEnvC scope cl CA env)); pure (ForInStep.yield ok) else pure (ForInStep.yield r)) (fun ok s₃ =>
            if ok = true then wpAny g.M A (eval elt (compEnvC scope cl CA env)) (fun x s₄ =>
              wpAny g.M A (call (.builtin "list.append") [.ref D, x]) (fun _ s₅ => ∃ m, m < k3 + 1 ∧ (fun k2 s' => ∃ h tk T' st2 j zs xs rest, s' = { s with heap := h, toks := tk } ∧ Evo F0 s.heap T h T' ∧ Rp g h T' st2 ∧ FrOk (compEnvC scope cl CA env) ks' h T' (lrm tg.vars l) ∧ P j h T' ∧ T' D = some .priv ∧ T' CA = some .priv ∧ h.PlainList D (xs : List Value).toArray ∧ VRs h T' zs xs ∧ zs.length + k2 ≤ 5000 ∧
        CompI g.P r pe tg pc (lrm tg.vars l) (getOf it) st' k2 j st2 rest ∧ zs ++ rest = ys) m s₅) (notedBy g.M A (compEnvC scope cl CA env) fun e s' => compPost g.M A E use Q (.ref D) CA (.error e) s') s₄) (notedBy g.M A (compEnvC scope cl CA env) fun e s' => compPost g.M A E use Q (.ref D) CA (.error e) s') s₃
            else ∃ m, m < k3 + 1 ∧ (fun k2 s' => ∃ h tk T' st2 j zs xs rest, s' = { s with heap := h, toks := tk } ∧ Evo F0 s.heap T h T' ∧ Rp g h T' st2 ∧ FrOk (compEnvC scope cl CA env) ks' h T' (lrm tg.vars l) ∧ P j h T' ∧ T' D = some .priv ∧ T' CA = some .priv ∧ h.PlainList D (xs : List Value).toArray ∧ VRs h T' zs xs ∧ zs.length + k2 ≤ 5000 ∧
        CompI g.P r pe tg pc (lrm tg.vars l) (getOf it) st' k2 j st2 rest ∧ zs ++ rest = ys) m s₃) (notedBy g.M A (compEnvC scope cl CA env) fun e s' => compPost g.M A E use Q (.ref D) CA (.error e) s') s₂)
          G S hA hg P4 R4 X4 htg ownC (fun a ha => by cases ha; exact hC4) offC awF ha fun h5 tk5 T5 e5 R5 X5 P5 => ?_) (fun x s1 hx => by obtain ⟨y, rfl, hy⟩ := hx; exact hy) fun _ _ y => y
        have e5' : Evo GG h T' h5 T5 := e5.mono fun a ha => ha.elim .inl fun e => .inr (.inl e)
        have ev5 := toF0 e4 e5'
        have fpGG : FP GG T' := fun a ha => by
          rcases ha with q | rfl | rfl
          · exact It.fp P4 a q
          · exact hC4
          · exact hD4
        have hz5 : VRs h5 T5 zs xs := VRs.evo fpGG e5' zs hz
        have hL5 : h5.PlainList D xs.toArray := by
          obtain ⟨mm, ho⟩ := hL4
          exact ⟨mm, e5.priv hD4 (fun hf => hf.elim hFD fun e => hDC e) ho⟩
        have other : ∀ k v, lget k (lrm tg.vars l) = some v → lget k l5 = some v := fun k v hk => by
          rw [assign_other tg ha fun hm => ?_]
          · exact hk
          · rw [lget_lrm, if_pos (by simpa using hm)] at hk; cases hk
        -- behind the test
        have skip : ∀ {h6 T6 st6 tk6}, Evo F0 h5 T5 h6 T6 → Rp g h6 T6 st6 → y = none → st3 = st6 → (fun k2 s' => ∃ h tk T' st2 j zs xs rest, s' = { s with heap := h, toks := tk } ∧ Evo F0 s.heap T h T' ∧ Rp g h T' st2 ∧ FrOk (compEnvC scope cl CA env) ks' h T' (lrm tg.vars l) ∧ P j h T' ∧ T' D = some .priv ∧ T' CA = some .priv ∧ h.PlainList D (xs : List Value).toArray ∧ VRs h T' zs xs ∧ zs.length + k2 ≤ 5000 ∧
            CompI g.P r pe tg pc (lrm tg.vars l) (getOf it) st' k2 j st2 rest ∧ zs ++ rest = ys) k3 { s with heap := h6, toks := tk6 } := fun {h6 T6 st6 tk6} e6 R6 hy hst => by
          subst hy hst
          obtain ⟨mm, ho⟩ := hL5
          exact ⟨h6, tk6, T6, _, _, zs, xs, rest', rfl, ev5.trans fp0 e6, R6, (X5.pass e6).weaken other, It.keep P5 fp0 offD e6, e6.role _ _ (e5.role _ _ hD4), e6.role _ _ (e5.role _ _ hC4), ⟨mm, e6.priv (e5.role _ _ hD4) id ho⟩, hz5.pass e6, by omega, hrest, by simpa using hys⟩
        have add : ∀ {h6 T6 st6 tk6}, Evo F0 h5 T5 h6 T6 → Rp g h6 T6 st6 → FrOk (compEnvC scope cl CA env) ks' h6 T6 l5 → (match r.E pe l5 st6 with | none => none | some (y, s) => some (some y, s)) = some (y, st3) →
            wpAny g.M A (eval elt (compEnvC scope cl CA env)) (fun x s₄ => wpAny g.M A (call (.builtin "list.append") [.ref D, x]) (fun _ s₅ => ∃ m, m < k3 + 1 ∧ (fun k2 s' => ∃ h tk T' st2 j zs xs rest, s' = { s with heap := h, toks := tk } ∧ Evo F0 s.heap T h T' ∧ Rp g h T' st2 ∧ FrOk (compEnvC scope cl CA env) ks' h T' (lrm tg.vars l) ∧ P j h T' ∧ T' D = some .priv ∧ T' CA = some .priv ∧ h.PlainList D (xs : List Value).toArray ∧ VRs h T' zs xs ∧ zs.length + k2 ≤ 5000 ∧
            CompI g.P r pe tg pc (lrm tg.vars l) (getOf it) st' k2 j st2 rest ∧ zs ++ rest = ys) m s₅) (notedBy g.M A (compEnvC scope cl CA env) fun e s' => compPost g.M A E use Q (.ref D) CA (.error e) s') s₄) (notedBy g.M A (compEnvC scope cl CA env) fun e s' => compPost g.M A E use Q (.ref D) CA (.error e) s') { s with heap := h6, toks := tk6 } := fun {h6 T6 st6 tk6} e6 R6 X6 he => by
          split at he
          · cases he
          · rename_i w st7 hw
            cases he
            refine S.E (s := { s with heap := h6, toks := tk6 }) hel X6 hA R6 hw fun h7 tk7 T7 x e7 R7 rx => ?_
            have e57 : Evo F0 h5 T5 h7 T7 := e6.trans fp0 e7
            obtain ⟨mm, ho⟩ := hL5
            have hL7 : h7.PlainList D xs.toArray := ⟨mm, e57.priv (e5.role _ _ hD4) id ho⟩
            have hD7 := e57.role _ _ (e5.role _ _ hD4)
            refine wpAny_list_append_plain (s := { s with heap := h7, toks := tk7 }) hL7 (fun h8 hl8 hs8 => ?_) (by rw [List.size_toArray, sizeLine_eq, ← hz.length]; omega)
            have fpD : FP (fun a => a = D) T7 := fun a ha => by cases ha; exact hD7
            obtain ⟨R8, e8⟩ := R7.setPriv (h' := h8) fpD (fun b o nb e => (hs8.2 b nb).trans e) fun b hb => by cases hb; obtain ⟨_, ho⟩ := hl8; exact ⟨_, ho⟩
            have e58 : Evo GG h5 T5 h8 T7 := (e57.mono fun _ h => h.elim).trans (F := GG) (fun a ha => by
              rcases ha with q | rfl | rfl
              · exact It.fp P5 a q
              · exact e5.role _ _ hC4
              · exact e5.role _ _ hD4) (e8.mono fun a ha => .inr (.inr ha))
            have offDD : Off F (fun a => a = D) := fun a hf e => hFD (e ▸ hf)
            refine ⟨k3, Nat.lt_succ_self _, h8, tk7, T7, st3, _, zs ++ [w], xs ++ [x], rest', rfl, toF0 ev5 e58, R8, ?_, It.keep (It.keep P5 fp0 offD e57) fpD offDD e8, e8.role _ _ hD7, e8.role _ _ (e57.role _ _ (e5.role _ _ hC4)), by simpa using hl8, ?_, ?_, hrest, by simpa using hys⟩
            · refine FrOk.weaken (l := l5) ?_ other
              refine (X6.pass e7).evo fpD e8 ⟨fun e => hDC e.symm, fun x c h9 h10 e => ?_⟩
              cases e
              obtain ⟨c', k1, k2, _⟩ := XC.cell x h9
              rw [h10] at k1; cases k1
              rcases mem_relabel (mem_of_lookup h9) with q | ⟨_, q1, q2⟩
              · exact absurd rfl (C.nocell _ q)
              · obtain ⟨c', k3', k4, _⟩ := X.cell x q2
                have : c' = D := by have := (hclx x q1).symm.trans h10; rw [k3'] at this; exact Option.some.inj this
                subst this
                rw [hDnew.2] at k4; cases k4
            · exact VRs.append (VRs.evo fpD e8 zs (hz5.pass e57)) ⟨rx.evo fpD e8, trivial⟩
            · rw [List.length_append, List.length_singleton]; omega
        cases ifs with
        | nil =>
          cases pc with
          | some _ => exact hif.elim
          | none =>
            dsimp only at hb
            refine wpAny_tests_nil ?_
            rw [if_pos rfl]
            exact add .refl R5 X5 hb
        | cons c cs =>
          cases cs with
          | cons _ _ => cases pc <;> exact hif.elim
          | nil =>
            cases pc with
            | none => exact hif.elim
            | some p =>
              dsimp only at hb
              refine wpAny_tests_one ?_
              split at hb
              · cases hb
              · rename_i st6 hB
                cases hb
                refine S.B (s := { s with heap := h5, toks := tk5 }) hif X5 hA R5 hB fun h6 tk6 T6 e6 R6 => ?_
                rw [if_neg (by decide)]
                exact ⟨k3, Nat.lt_succ_self _, skip e6 R6 rfl rfl⟩
              · rename_i st6 hB
                refine S.B (s := { s with heap := h5, toks := tk5 }) hif X5 hA R5 hB fun h6 tk6 T6 e6 R6 => ?_
                rw [if_pos rfl]
                exact add e6 R6 (X5.pass e6) hb
  exact codeAny_compStart_list loop (It.self P3 loop)
end
end Mux
namespace Mux
open PySem PySem.W

section
variable {g : Glb} {K : Frag} {fa : Nat → Addr} {A : Around} {E : Value → Shared → Prop} {s : Shared} {T : TT} {st st' : St} {v : V} {env : Env} {ks : Ks} {l : Loc} {n m : Nat} {r : Rec} {Q : Value → Shared → Prop}

def It.size : It → Nat
  | .items xs => xs.length
  | .place _ n => n
theorem enumFrom_len : ∀ (n : Nat) (xs : List V), (enumFrom n xs).length = xs.length
  | _, [] => rfl
  | n, x :: xs => by simp [enumFrom, enumFrom_len (n + 1) xs]
theorem srcS_len {src : Src} {it : It} {st1 : St} (h : srcS r src l st = some (it, st1)) : it.size ≤ 2000 := by
  cases src <;> simp only [srcS] at h
  · split at h
    · split at h
      · rename_i hz; cases h; show List.length _ ≤ _; omega
      · cases h
    · split at h
      · rename_i hz; cases h; show List.length _ ≤ _; omega
      · cases h
    · obtain ⟨xs, h1, h2⟩ := Option.bind_eq_some_iff.mp h
      split at h2
      · rename_i hz; cases h2; show List.length _ + 1 ≤ _; omega
      · cases h2
    · cases h
  · split at h
    · obtain ⟨xs, h1, h2⟩ := Option.map_eq_some_iff.mp h
      cases h2
      show List.length _ ≤ _
      unfold rangeS at h1
      split at h1
      · split at h1
        · cases h1; simp [rangeU]; omega
        · cases h1
      · split at h1
        · cases h1; simp [rangeU]; omega
        · cases h1
      · split at h1
        · cases h1; simp [rangeD]; omega
        · cases h1
      · cases h1
    · cases h
  · split at h
    · split at h
      · rename_i hz; cases h; show List.length _ ≤ _; rw [enumFrom_len]; omega
      · cases h
    · cases h

/-- the comprehension of the evaluator, as the loop's turns -/
theorem comp_to {P : Prog} {pe : PE} {t : Tg} {src : Src} {pc : Option PE} (h : stepE P r (.comp pe t src pc) l st = some (v, st')) : ∃ it st1 kk ys, srcS r src l st = some (it, st1) ∧ kk ≤ 5000 ∧ CompI P r pe t pc (lrm t.vars l) (getOf it) st' kk 0 st1 ys ∧ v = .list ys := by
  simp only [stepE] at h
  split at h
  · cases h
  · rename_i xs st1 h1
    obtain ⟨⟨ys, s2⟩, h2, h3⟩ := Option.map_eq_some_iff.mp h
    cases h3
    have hl := srcS_len h1
    have hl' : xs.length ≤ 2000 := hl
    exact ⟨_, st1, xs.length, ys, h1, by omega, compL_to rfl h2, rfl⟩
  · rename_i k nn st1 h1
    obtain ⟨⟨ys, s2⟩, h2, h3⟩ := Option.map_eq_some_iff.mp h
    cases h3
    have hl := srcS_len h1
    have hl' : nn ≤ 2000 := hl
    exact ⟨_, st1, nn, ys, h1, by omega, compM_to h2, rfl⟩

/-- a list comprehension's parts -/
structure CompC (f : Ks → Expr → Option PE) (ks : Ks) (elt t iter : Expr) (ifs : List Expr) (scope : Scope) (pe : PE) (tg : Tg) (src : Src) (pc : Option PE) : Prop where
  htg : cTg f (relabelK ks scope.names) t = some tg
  hsrc : cSrc f ks iter = some src
  hel : f (relabelK ks scope.names) elt = some pe
  hifs : IfsR (f (relabelK ks scope.names)) ifs pc
  hsc : compScopeOk ks scope tg.vars = true
  hts : tgSrc tg src = true

theorem comp_eok (G : GOk g K fa) (S : Snd g n r) (hA : Rm A n) {elt t iter : Expr} {ifs : List Expr} {scope : Scope} {pos : Pos} {tg : Tg} {src : Src} {pe : PE} {pc : Option PE} (X : FrOk env ks s.heap T l) (R : Rp g s.heap T st) (C : CompC (cE m) ks elt t iter ifs scope pe tg src pc)
    (he : stepE g.P r (.comp pe tg src pc) l st = some (v, st')) (q : Pst g s T st' v Q) : wpAny g.M A (eval (.ListComp elt [⟨t, iter, ifs, 0⟩] scope pos) env) Q E s := by
  obtain ⟨it, st1, kk, ys, h1, h2, h3, rfl⟩ := comp_to he
  rw [eval_ListComp]
  refine comp_ok G S hA X R C.htg C.hsrc C.hel C.hifs C.hsc C.hts h1 h2 h3 fun h' tk T' D CA e R' rv hC hC0 hC1 hN => ?_
  obtain ⟨mm, hn⟩ := hN
  refine ⟨mm, hn, fun h'' hs => ?_⟩
  have fpC : FP (fun a => a = CA) T' := fun a ha => by cases ha; exact hC
  have kC : ∀ b o, ¬ (fun a => a = CA) b → h'.get? b = some o → h''.get? b = some o := fun b o nb e => (hs.2 b nb).trans e
  exact q h'' tk _ _ (e.letGo (fun a ha => by cases ha; exact ⟨hC1, hC0⟩) kC) (R'.letGo fpC kC) (rv.letGo fpC kC)

theorem cE_succ {m : Nat} {ks : Ks} {e : Expr} {p : PE} (h : cE m ks e = some p) : ∃ k, m = k + 1 ∧ stepC (cE k) ks e = some p := by
  cases m with
  | zero => cases h
  | succ k => exact ⟨k, rfl, h⟩

theorem stepE_ok (G : GOk g K fa) (S : Snd g n r) (hA : Rm A (n + 1)) (hr : ∀ v l st w st', r.E (.const v) l st = some (w, st') → w = v ∧ st' = st) {e : Expr} {p : PE} (hc : cE m ks e = some p) (X : FrOk env ks s.heap T l) (R : Rp g s.heap T st)
    (he : stepE g.P r p l st = some (v, st')) (q : Pst g s T st' v Q) : wpAny g.M A (eval e env) Q E s := by
  replace hc := cE_succ hc
  obtain ⟨m, rfl, hc⟩ := hc
  have hA1 := hA.less (Nat.le_succ n)
  unfold stepC at hc
  split at hc
  · obtain ⟨w, h1, rfl⟩ := Option.map_eq_some_iff.mp hc
    simp only [stepE] at he
    cases he
    exact const_ok R h1 q
  · obtain ⟨k, h1, rfl⟩ := Option.map_eq_some_iff.mp hc
    simp only [stepE] at he
    obtain ⟨w, h2, h3⟩ := Option.map_eq_some_iff.mp he
    cases h3
    exact load_ok X R h1 h2 q
  · split at hc
    · rename_i hb
      split at hc
      · rename_i h1 h2
        cases hc
        exact attr_ok G S hA1 X R hb h1 h2 he q
      · cases hc
    · cases hc
  · obtain ⟨w, h1, rfl⟩ := Option.map_eq_some_iff.mp hc
    exact upto_ok S hA1 X R h1 he q
  · obtain ⟨w, h1, rfl⟩ := Option.map_eq_some_iff.mp hc
    exact rev_ok S hA1 X R h1 he q
  · split at hc
    · cases hc
    · rename_i hs
      split at hc
      · rename_i h1 h2
        cases hc
        exact idx_ok S hA1 X R (by simpa using hs) h1 h2 he q
      · cases hc
  · split at hc
    · rename_i h1 h2 h3
      cases hc
      exact bin_eok S hA1 X R h1 h3 h2 he q
    · cases hc
  · obtain ⟨w, h1, rfl⟩ := Option.map_eq_some_iff.mp hc
    exact not_eok S hA1 X R h1 he q
  · obtain ⟨w, h1, rfl⟩ := Option.map_eq_some_iff.mp hc
    exact neg_eok S hA1 X R h1 he q
  · obtain ⟨w, h1, rfl⟩ := Option.map_eq_some_iff.mp hc
    rw [arm_eval_BoolOp]
    exact bop_eok S hA1 h1 X R he q
  · split at hc
    · cases hc
    · rename_i hs
      split at hc
      · rename_i h1 h2 h3
        cases hc
        exact cmp_eok G S hA1 X R (by simpa using hs) h1 h3 h2 he q
      · cases hc
  · split at hc
    · rename_i h1 h2 h3
      cases hc
      exact ite_eok S hA1 X R h1 h2 h3 he q
    · cases hc
  · cases hc
    exact ml0_eok X R he q
  · cases hc
    exact ml1_eok hr X R he q
  · split at hc
    · cases hc
    · rename_i hs
      obtain ⟨w, h1, rfl⟩ := Option.map_eq_some_iff.mp hc
      exact list_eok S hA1 X R (by simpa using hs) h1 he q
  · split at hc
    · cases hc
    · rename_i hs
      obtain ⟨w, h1, rfl⟩ := Option.map_eq_some_iff.mp hc
      exact tup_eok S hA1 X R (by simpa using hs) h1 he q
  · cases hc
    exact dict0_eok R he q
  · split at hc
    · rename_i h1 h2
      cases hc
      exact dict1_eok S hA1 X R h1 h2 he q
    · cases hc
  · split at hc
    · rename_i hl
      split at hc
      · rename_i h1 h2
        split at hc
        · rename_i hn
          cases hc
          exact sdict_eok S hA1 X R hl h1 h2 hn he q
        · cases hc
      · cases hc
    · cases hc
  · split at hc
    · rename_i h1 h2 h3
      split at hc
      · rename_i h4
        simp only [Bool.and_eq_true] at h4
        split at hc
        · cases hc
          exact comp_eok (pc := none) G S hA1 X R ⟨h1, h2, h3, trivial, h4.1, h4.2⟩ he q
        · obtain ⟨w, h5, rfl⟩ := Option.map_eq_some_iff.mp hc
          exact comp_eok (pc := some w) G S hA1 X R ⟨h1, h2, h3, h5, h4.1, h4.2⟩ he q
        · cases hc
      · cases hc
    · cases hc
  · split at hc
    · rename_i hg
      simp only [Bool.and_eq_true, Bool.not_eq_true', decide_eq_true_eq] at hg
      obtain ⟨⟨hg1, hg2⟩, hg3⟩ := hg
      split at hc
      · rename_i b hb
        split at hc
        · obtain ⟨w, h1, rfl⟩ := Option.map_eq_some_iff.mp hc
          exact bi_eok G S hA X R hg1 hb (by simpa using hg2) h1 he q
        · cases hc
      · split at hc
        · rename_i c hcn
          obtain ⟨w, h1, rfl⟩ := Option.map_eq_some_iff.mp hc
          exact new_eok G S hA X R hg1 hcn hg2 h1 he q
        · split at hc
          · rename_i i hi
            obtain ⟨w, h1, rfl⟩ := Option.map_eq_some_iff.mp hc
            exact call_eok G S hA X R hg1 hi hg2 h1 he q
          · split at hc
            · rename_i hx
              subst hx
              split at hc
              · split at hc
                · rename_i hb
                  simp only [Bool.and_eq_true, decide_eq_true_eq] at hb
                  obtain ⟨rfl, hb2⟩ := hb
                  obtain ⟨w, h1, rfl⟩ := Option.map_eq_some_iff.mp hc
                  simp only [List.any_cons, Bool.or_eq_false_iff] at hg2
                  exact isb_eok G S hA X R hg1 hb2 hg2.1 h1 he q
                · cases hc
              · cases hc
            · cases hc
    · cases hc
  · split at hc
    · rename_i hg
      simp only [Bool.and_eq_true, Bool.not_eq_true', decide_eq_true_eq] at hg
      obtain ⟨⟨⟨hg1, hg2⟩, hg3⟩, hg4⟩ := hg
      split at hc
      · rename_i b hb
        split at hc
        · rename_i h1 h2
          cases hc
          exact bm_eok G S hA X R hg1 hg3 hg4 hb h1 hg2 h2 he q
        · cases hc
      · split at hc
        · cases hc
          simp only [stepE] at he
          cases he
        · rename_i c hcn
          split at hc
          · rename_i h1 h2
            split at hc
            · cases hc
            · cases hc
              exact meth_eok G S hA X R hg1 hg3 hg4 hcn h1 hg2 h2 he q
          · cases hc
    · cases hc
  · cases hc
end
end Mux
namespace Mux
open PySem PySem.W

def PE.plain : PE → Bool
  | .not _ => false
  | .bop _ _ => false
  | .ite _ _ _ => false
  | _ => true
def tests : Expr → Bool
  | .UnaryOp .Not _ _ => true
  | .BoolOp _ _ _ => true
  | .IfExp _ _ _ _ => true
  | .Compare _ _ _ _ => true
  | _ => false
theorem plain_of {f : Ks → Expr → Option PE} {ks : Ks} {e : Expr} {p : PE} (hc : stepC f ks e = some p) (ht : tests e = false) : p.plain = true := by
  unfold stepC at hc
  split at hc <;> (first | (simp [tests] at ht; done) | skip) <;> (repeat' split at hc) <;> first | (cases hc; rfl) | (cases hc; done) | (obtain ⟨w, _, rfl⟩ := Option.map_eq_some_iff.mp hc; rfl)
theorem isTrue_plainX {e : Expr} {env : Env} {wh : Sem Value} (ht : tests e = false) : isTrue e env wh = (do let v ← wh; standAt e.pos; holding [v] (truthy v)) := by
  cases e with
  | UnaryOp op x pos => cases op <;> first | rfl | cases ht
  | _ => first | rfl | cases ht
theorem stepB_plain {P : Prog} {r : Rec} {p : PE} {l : Loc} {st : St} (h : p.plain = true) : stepB P r p l st = match stepE P r p l st with
    | some (.bool b, s) => some (b, s)
    | _ => none := by
  cases p <;> first | rfl | cases h

section
variable {g : Glb} {K : Frag} {fa : Nat → Addr} {A : Around} {E : Value → Shared → Prop} {s : Shared} {T : TT} {st st' : St} {env : Env} {ks : Ks} {l l' : Loc} {n m k : Nat} {r : Rec}

theorem stepB_ok (G : GOk g K fa) (S : Snd g n r) (hA : Rm A (n + 1)) (hr : ∀ v l st w st', r.E (.const v) l st = some (w, st') → w = v ∧ st' = st) {e : Expr} {p : PE} {b : Bool} {Q : Bool → Shared → Prop} (hc : cE m ks e = some p) (X : FrOk env ks s.heap T l) (R : Rp g s.heap T st)
    (he : stepB g.P r p l st = some (b, st')) (q : PstB g s T st' b Q) : wpAny g.M A (isTrue e env (eval e env)) Q E s := by
  have hA1 := hA.less (Nat.le_succ n)
  cases ht : tests e with
  | false =>
    obtain ⟨m', rfl, hc'⟩ := cE_succ hc
    rw [stepB_plain (plain_of hc' ht)] at he
    split at he
    · rename_i b' s1 e1
      cases he
      rw [isTrue_plainX ht]
      refine wpAny_bind (stepE_ok G S hA hr hc X R e1 fun h' tk T' x e' R' rx => ?_)
      cases rx
      exact wpAny_bind (wpAny_standAt (wpAny_holding (wpAny_truthy_bool (q h' tk T' e' R'))))
    · cases he
  | true =>
    replace hc := cE_succ hc
    obtain ⟨m, rfl, hc⟩ := hc
    unfold stepC at hc
    split at hc <;> first | (cases ht; done) | skip
    · obtain ⟨w, h1, rfl⟩ := Option.map_eq_some_iff.mp hc
      simp only [stepB] at he
      split at he
      · rename_i b' s1 e1
        cases he
        exact wpAny_isTrue_Not (S.B h1 X hA1 R e1 fun h' tk T' e' R' => q h' tk T' e' R')
      · cases he
    · obtain ⟨w, h1, rfl⟩ := Option.map_eq_some_iff.mp hc
      simp only [stepB] at he
      exact wpAny_isTrue_BoolOp (bop_bok S hA1 h1 X R he q)
    · split at hc
      · cases hc
      · rename_i hs
        split at hc
        · rename_i h1 h2 h3
          cases hc
          rw [stepB_plain rfl] at he
          split at he
          · rename_i b' s1 e1
            cases he
            exact cmp_bok G S hA1 X R (by simpa using hs) h1 h3 h2 e1 q
          · cases he
        · cases hc
    · split at hc
      · cases hc
        simp only [stepB] at he
        cases he
      · cases hc
    · cases hc

/-! statements -/
theorem PstS.mono0 {g : Glb} {s : Shared} {T : TT} {env : Env} {ks : Ks} {fl : Fl} {st' : St} {Q : Flow → Shared → Prop} (q : PstS g s T env ks fl l st' Q) (X : FrOk env ks s.heap T l) {h' : Heap} {tk : Nat} {T' : TT} {f : Flow} (e : Evo F0 s.heap T h' T') (R : Rp g h' T' st') (hf : FlR h' T' fl f) : Q f { s with heap := h', toks := tk } :=
  q h' tk T' f (e.mono fun _ h => h.elim) R (X.pass e) hf

theorem filterMap_len {α β : Type} {f : α → Option β} : ∀ {l : List α}, (l.filterMap f).length = l.length → ∀ x ∈ l, (f x).isSome = true
  | [], _, x, hx => by cases hx
  | y :: r, h, x, hx => by
    rw [List.filterMap_cons] at h
    cases hy : f y with
    | none =>
      rw [hy] at h
      have := List.length_filterMap_le f r
      simp at h; omega
    | some z =>
      rw [hy] at h
      rcases List.mem_cons.mp hx with rfl | hx
      · rw [hy]; rfl
      · exact filterMap_len (by simpa using h) x hx
theorem eraseDups_nodup {l : List Str} (h : l.eraseDups.length = l.length) : l.Nodup := by
  have key : ∀ (n : Nat) (l : List Str), l.length = n → l.eraseDups.length ≤ l.length ∧ (l.eraseDups.length = l.length → l.Nodup) := by
    intro n
    induction n using Nat.strongRecOn with
    | ind n ih =>
      intro l hl
      cases l with
      | nil => simp
      | cons a r =>
        rw [List.eraseDups_cons]
        have hf : (r.filter fun b => !b == a).length ≤ r.length := List.length_filter_le _ _
        obtain ⟨i1, i2⟩ := ih (r.filter fun b => !b == a).length (by simp at hl; omega) _ rfl
        simp only [List.length_cons]
        refine ⟨by omega, fun e => ?_⟩
        have hfe : (r.filter fun b => !b == a).length = r.length := by omega
        have hfr : (r.filter fun b => !b == a) = r := by
          rw [List.filter_eq_self]
          exact List.length_filter_eq_length_iff.mp hfe
        rw [List.nodup_cons]
        refine ⟨fun hm => ?_, ?_⟩
        · have := List.length_filter_eq_length_iff.mp hfe a hm
          simp at this
        · rw [hfr] at i2 e
          exact i2 (by omega)
  exact (key _ l rfl).2 h

theorem swapped_names {ts : List Expr} {tgs : List Tg} {line : Nat} (hk : ∀ x, env.kindOf x = ks.lookup x) : cTgs (cE m) ks ts = some tgs → (∀ x ∈ ts, ((match x with | .Name id pos => if (env.kindOf id == some .local && pos.line == line) = true then some id else none | _ => none : Option Str)).isSome = true) →
    ∃ codes : List Nat, tgs = codes.map Tg.var ∧ (ts.filterMap fun | .Name id pos => if (env.kindOf id == some .local && pos.line == line) = true then some id else none | _ => none) = codes.map (ofCode nm) ∧ ∀ c ∈ codes, c < nm.length ∧ ks.lookup (ofCode nm c) = some .local := by
  intro hc h
  induction ts generalizing tgs with
  | nil => simp only [cTgs] at hc; cases hc; exact ⟨[], rfl, rfl, nofun⟩
  | cons t ts ih =>
    obtain ⟨p, ps, h1, h2, rfl⟩ := cTgs_cons hc
    obtain ⟨codes, a, b, c⟩ := ih h2 fun x hx => h x (.tail _ hx)
    have h0 := h t (.head _)
    rcases cTg_inv h1 with ⟨x, pos, k, rfl, hk1, rfl⟩ | ⟨_, _, _, _, _, rfl, _⟩ | ⟨_, _, _, _, _, rfl, _⟩ | ⟨_, _, _, _, rfl, _⟩
    · obtain ⟨hl, hlt, rfl⟩ := cVar_spec hk1
      dsimp only at h0
      split at h0
      · rename_i hc
        have hloc : ks.lookup (ofCode nm k) = some .local := by
          simp only [Bool.and_eq_true, beq_iff_eq] at hc
          rw [← hk]; exact hc.1
        refine ⟨k :: codes, by rw [a]; rfl, ?_, fun c' hc' => ?_⟩
        · rw [List.filterMap_cons]
          simp only [hc, if_true]
          rw [b]; rfl
        · rcases List.mem_cons.mp hc' with rfl | hc'
          · exact ⟨hlt, hloc⟩
          · exact c c' hc'
      · cases h0
    · cases h0
    · cases h0
    · cases h0

theorem swapped_ok {t e : Expr} {tg : Tg} (X : FrOk env ks s.heap T l) (hc : cTg (cE m) ks t = some tg) (ho : swapOk t e = true) : (swappedStores [t] e env = pure none) ∨
    ∃ ts i pos, ∃ codes : List Nat, t = .Tuple ts i pos ∧ tg = .tup (codes.map Tg.var) ∧ ts.length = codes.length ∧ (∀ c ∈ codes, c < nm.length ∧ ks.lookup (ofCode nm c) = some .local) ∧ codes.Nodup ∧ swappedStores [t] e env = pure (some (codes.map (ofCode nm))) := by
  have hbk : env.blockKind = .function := by unfold Env.blockKind; rw [X.kind]; rfl
  rcases cTg_inv hc with ⟨x, pos, k, rfl, hk1, rfl⟩ | ⟨_, _, _, _, _, rfl, _⟩ | ⟨_, _, _, _, _, rfl, _⟩ | ⟨ts, i, pos, tgs, rfl, hts, rfl⟩
  · exact .inl rfl
  · exact .inl rfl
  · exact .inl rfl
  · cases e with
    | Tuple vs j p' =>
      unfold swappedStores
      dsimp only
      split
      · exact .inl rfl
      · split
        · exact .inl rfl
        · split
          · exact .inl rfl
          · rename_i hn
            simp only [Bool.or_eq_true, bne_iff_ne, ne_eq, not_or, Decidable.not_not] at hn
            obtain ⟨codes, a, b, c⟩ := swapped_names (kindOf_of X) hts (filterMap_len hn.1)
            split
            · exact .inl rfl
            · rename_i hf
              split
              · rename_i hca
                unfold swapOk at ho
                simp only [Bool.or_eq_true, Bool.not_eq_true'] at ho
                rcases ho with q | q
                · rw [q] at hf; exact absurd rfl hf
                · rw [q] at hca; cases hca
              · refine .inr ⟨ts, i, pos, codes, rfl, by rw [a], ?_, c, ?_, ?_⟩
                · rw [← hn.1]; exact (congrArg List.length b).trans (List.length_map _)
                · have h3 : (codes.map (ofCode nm)).Nodup := Eq.mp (congrArg List.Nodup b) (eraseDups_nodup hn.2)
                  rw [List.nodup_iff_pairwise_ne] at h3 ⊢
                  rw [List.pairwise_map] at h3
                  exact h3.imp fun h e => h (by rw [e])
                · exact congrArg (fun x => (pure (some x) : Sem (Option (List Str)))) b
    | _ => exact .inl rfl

/-! stores in another order -/
def stores (zs : List (Nat × V)) (l : Loc) : Loc := zs.foldl (fun l p => upd p.1 p.2 l) l
theorem lget_stores {k : Nat} : ∀ {zs : List (Nat × V)} {l : Loc}, (zs.map (·.1)).Nodup → lget k (stores zs l) = match zs.find? (fun p => p.1 = k) with
    | some p => some p.2
    | none => lget k l
  | [], l, _ => rfl
  | (a, v) :: r, l, h => by
    simp only [List.map_cons, List.nodup_cons] at h
    show lget k (stores r (upd a v l)) = _
    rw [lget_stores h.2, List.find?_cons]
    by_cases q : a = k
    · subst q
      have : r.find? (fun p => decide (p.1 = a)) = none := by
        rw [List.find?_eq_none]
        intro p hp e
        exact h.1 (List.mem_map.mpr ⟨p, hp, of_decide_eq_true e⟩)
      rw [this]
      simp [lget_upd]
    · simp only [show decide (a = k) = false from decide_eq_false q]
      cases r.find? (fun p => decide (p.1 = k)) with
      | some p => rfl
      | none => simp only; rw [lget_upd, if_neg (fun e => q e.symm)]
theorem find_reverse {k : Nat} {zs : List (Nat × V)} (h : (zs.map (·.1)).Nodup) : zs.reverse.find? (fun p => p.1 = k) = zs.find? fun p => p.1 = k := by
  have uniq : ∀ p q, p ∈ zs → q ∈ zs → p.1 = q.1 → p = q := by
    intro p q hp hq e
    obtain ⟨i, hi, rfl⟩ := List.getElem_of_mem hp
    obtain ⟨j, hj, rfl⟩ := List.getElem_of_mem hq
    have : i = j := (List.getElem_inj h (i := i) (j := j) (h₀ := by simpa using hi) (h₁ := by simpa using hj)).mp (by simpa using e)
    subst this; rfl
  cases h1 : zs.find? (fun p => decide (p.1 = k)) with
  | none =>
    rw [List.find?_eq_none] at h1 ⊢
    intro p hp; exact h1 p (List.mem_reverse.mp hp)
  | some p =>
    have hp := List.mem_of_find?_eq_some h1
    have hk : p.1 = k := by simpa using List.find?_some h1
    cases h2 : zs.reverse.find? (fun p => decide (p.1 = k)) with
    | none =>
      rw [List.find?_eq_none] at h2
      exact absurd (decide_eq_true hk) (h2 p (List.mem_reverse.mpr hp))
    | some q =>
      have hq := List.mem_reverse.mp (List.mem_of_find?_eq_some h2)
      have hk' : q.1 = k := by simpa using List.find?_some h2
      rw [uniq p q hp hq (hk.trans hk'.symm)]
theorem lget_stores_rev {k : Nat} {zs : List (Nat × V)} {l : Loc} (h : (zs.map (·.1)).Nodup) : lget k (stores zs.reverse l) = lget k (stores zs l) := by
  rw [lget_stores (by rw [List.map_reverse]; exact (List.reverse_perm _).nodup_iff.mpr h), lget_stores h, find_reverse h]
theorem assigns_vars {P : Prog} {r : Rec} : ∀ {codes : List Nat} {vs : List V} {l l' : Loc} {st st' : St}, Mux.assigns P r (codes.map Tg.var) vs l st = some (l', st') → vs.length = codes.length ∧ l' = stores (codes.zip vs) l ∧ st' = st
  | [], [], l, l', st, st', h => by simp only [List.map_nil, Mux.assigns] at h; cases h; exact ⟨rfl, rfl, rfl⟩
  | [], _ :: _, l, l', st, st', h => by simp only [List.map_nil, Mux.assigns] at h; cases h
  | _ :: _, [], l, l', st, st', h => by simp only [List.map_cons, Mux.assigns] at h; cases h
  | c :: cs, v :: vs, l, l', st, st', h => by
    simp only [List.map_cons, Mux.assigns, Mux.assign] at h
    obtain ⟨a, b, c'⟩ := assigns_vars h
    exact ⟨by simp [a], b, c'⟩

/-- names stored one after another -/
theorem storeAll_ok {F : Addr → Prop} : ∀ {zs : List (Nat × V)} {xs : List Value} {l : Loc} {s : Shared} {T : TT} {Q : Unit → Shared → Prop}, (∀ p ∈ zs, p.1 < nm.length ∧ ks.lookup (ofCode nm p.1) = some .local) → FP F T → F env.locals → FrOk env ks s.heap T l → Rp g s.heap T st → VRs s.heap T (zs.map (·.2)) xs →
    (∀ h' tk, Evo F s.heap T h' T → Rp g h' T st → FrOk env ks h' T (stores zs l) → Q () { s with heap := h', toks := tk }) → wpAny g.M A (assignInOrder ((zs.map (·.1)).map fun n => bindName env (ofCode nm n)) xs) Q E s
  | [], [], l, s, T, Q, _, fp, hF, X, R, _, q => wpAny_pure (q s.heap s.toks .refl R X)
  | [], _ :: _, l, s, T, Q, _, fp, hF, X, R, h, q => h.elim
  | _ :: _, [], l, s, T, Q, _, fp, hF, X, R, h, q => h.elim
  | (c, v) :: zs, x :: xs, l, s, T, Q, hz, fp, hF, X, R, rx, q => by
    obtain ⟨hlt, hl⟩ := hz (c, v) (.head _)
    show wpAny _ _ (holding xs (bindName env (ofCode nm c) x) >>= fun _ => assignInOrder _ xs) _ _ _
    refine wpAny_bind (wpAny_holding (store_ok X R (by unfold isLoc; dsimp only at hl; rw [hl]) hlt rx.1 fp hF (fun c' h1 _ => by dsimp only at hl; rw [hl] at h1; cases h1) (fp.live R) fun h' tk e R' X' => ?_))
    exact storeAll_ok (fun p hp => hz p (.tail _ hp)) fp hF X' R' (VRs.evo fp e _ rx.2) fun h'' tk'' e'' R'' X'' => q h'' tk'' (e.trans fp e'') R'' X''
end
end Mux
namespace Mux
open PySem PySem.W

theorem cS_succ {m k : Nat} {ks : Ks} {x : Stmt} {p : PS} (h : cS m k ks x = some p) : ∃ j, k = j + 1 ∧ stepCS (cE m) (cS m j) ks x = some p := by
  cases k with
  | zero => cases h
  | succ j => exact ⟨j, rfl, h⟩
def isComp : Expr → Bool
  | .ListComp .. => true
  | .SetComp .. => true
  | .DictComp .. => true
  | _ => false
theorem swaps_none {e : Expr} {line : Nat} {env : Env} (h : isComp e = false) (t : Option Expr) : swapsWith e t line env = pure false := by
  cases e <;> first | rfl | cases h
theorem cE_comp {m : Nat} {ks : Ks} {e : Expr} {p : PE} (hc : cE m ks e = some p) (h : isComp e = true) : ∃ m' elt t iter ifs scope pos pe tg src pc, m = m' + 1 ∧ e = .ListComp elt [⟨t, iter, ifs, 0⟩] scope pos ∧ p = .comp pe tg src pc ∧ CompC (cE m') ks elt t iter ifs scope pe tg src pc := by
  replace hc := cE_succ hc
  obtain ⟨m', rfl, hc⟩ := hc
  unfold stepC at hc
  split at hc <;> first | (cases h; done) | skip
  · split at hc
    · rename_i h1 h2 h3
      split at hc
      · rename_i h4
        simp only [Bool.and_eq_true] at h4
        split at hc
        · cases hc
          exact ⟨_, _, _, _, _, _, _, _, _, _, none, rfl, rfl, rfl, ⟨h1, h2, h3, trivial, h4.1, h4.2⟩⟩
        · obtain ⟨w, h5, rfl⟩ := Option.map_eq_some_iff.mp hc
          exact ⟨_, _, _, _, _, _, _, _, _, _, some w, rfl, rfl, rfl, ⟨h1, h2, h3, h5, h4.1, h4.2⟩⟩
        · cases hc
      · cases hc
    · cases hc
  · cases hc

section
variable {g : Glb} {K : Frag} {fa : Nat → Addr} {A : Around} {E : Value → Shared → Prop} {s : Shared} {T : TT} {st st' : St} {env : Env} {ks : Ks} {l l' : Loc} {n m k : Nat} {r : Rec}

theorem swapsName {e : Expr} {line : Nat} {x : Str} {pos : Pos} : ∃ b, swapsWith e (some (.Name x pos)) line env = pure b := by
  unfold swapsWith
  cases e <;> exact ⟨_, rfl⟩
theorem swapsOther {e t : Expr} {line : Nat} (h : ∀ x pos, t ≠ .Name x pos) : swapsWith e (some t) line env = pure false := by
  unfold swapsWith
  cases t <;> first | exact absurd rfl (h _ _) | (cases e <;> rfl)

/-- t = e, the value first -/
theorem asg_plain (G : GOk g K fa) (S : Snd g n r) (hA : Rm A n) {t e : Expr} {tg : Tg} {p : PE} {pos : Pos} {v : V} {st1 : St} {Q : Flow → Shared → Prop} (hsw : swapsWith e (some t) pos.line env = pure false) (hc : cTg (cE m) ks t = some tg) (he : cE m ks e = some p) (ho : swapOk t e = true)
    (X : FrOk env ks s.heap T l) (R : Rp g s.heap T st) (h1 : r.E p l st = some (v, st1)) (h2 : Mux.assign g.P r tg v l st1 = some (l', st')) (q : PstS g s T env ks .next l' st' Q) : wpAny g.M A (exec (.Assign [t] e pos) env) Q E s := by
  rw [arm_exec_Assign]
  refine wpAny_bind (wpAny_standAt (wpAny_bind (m := swapsWithSole [t] e pos.line env) (wpAny_of_eq hsw ?_)))
  rw [if_neg (by decide)]
  refine wpAny_bind (S.E he X hA R h1 fun h' tk T' x e' R' rx => ?_)
  have X' := X.pass e'
  rcases swapped_ok (s := { s with heap := h' }) X' hc ho with hs | ⟨ts, i, p', codes, rfl, rfl, hlen, hcod, hnd, hs⟩
  · refine wpAny_bind (wpAny_of_eq hs ?_)
    rw [cTg_plain hc]
    show wpAny _ _ (assignAll x [PySem.assign t env] >>= fun _ => pure Flow.next) _ _ _
    show wpAny _ _ (PySem.assign t env x >>= fun _ => pure Flow.next) _ _ _
    refine wpAny_bind (assign_ok (s := { s with heap := h', toks := tk }) G S hA tg hc own_env X'.fp X' R' rx h2 fun h'' tk'' T'' e'' R'' X'' => wpAny_pure ?_)
    exact q h'' tk'' T'' .next (Evo.trans (F := Fenv env ks) X.fp (e'.mono fun _ h => h.elim) e'') R'' X'' rfl
  · refine wpAny_bind (wpAny_of_eq hs ?_)
    simp only [Mux.assign] at h2
    split at h2
    · rename_i vs
      split at h2
      · rename_i hl
        obtain ⟨a, xs, rfl, hT, hI, rv⟩ := rx
        obtain ⟨hvl, rfl, rfl⟩ := assigns_vars h2
        show wpAny _ _ (rule "assign.swapped-stores" >>= fun _ => unpackItems (.ref a) (codes.map (ofCode nm)).length none >>= fun items => assignInOrder ((codes.map (ofCode nm)).reverse.map fun n => bindName env n) items.reverse >>= fun _ => pure Flow.next) _ _ _
        have hz : (codes.map (ofCode nm)).length = xs.toArray.size := by rw [List.length_map, List.size_toArray, ← rv.length, hvl]
        rw [hz]
        refine wpAny_bind (wpAny_rule (wpAny_bind (wpAny_unpackItems_tuple (s := { s with heap := h', toks := tk }) hA.handled hI fun h3 hx3 => ?_)))
        have k3 : ∀ b o, h'.get? b = some o → h3.get? b = some o := fun b o e => hx3 b o (Nat.ne_of_lt (Heap.lt_size e)) e
        have e3 : Evo F0 h' T' h3 T' := .grow k3
        have X3 := X'.pass e3
        have hzip : ((codes.zip vs).reverse.map (·.1)) = codes.reverse := by rw [List.map_reverse, List.map_fst_zip (by omega)]
        have hzip2 : ((codes.zip vs).reverse.map (·.2)) = vs.reverse := by rw [List.map_reverse, List.map_snd_zip (by omega)]
        have hfin := storeAll_ok (A := A) (E := E) (F := Fenv env ks) (zs := (codes.zip vs).reverse) (xs := xs.reverse) (l := l) (s := { s with heap := h3, toks := tk }) (T := T') (st := st') (ks := ks) (env := env)
          (Q := fun _ s' => Q .next s') (fun p hp => hcod p.1 (List.of_mem_zip (List.mem_reverse.mp hp)).1) X3.fp (.inl rfl) X3 (R'.grow k3) (by rw [hzip2]; exact VRs.reverse (rv.pass e3)) (fun h4 tk4 e4 R4 X4 => by
            refine q h4 tk4 T' .next (Evo.trans (F := Fenv env ks) X.fp ((e'.trans fp0 e3).mono fun _ h => h.elim) e4) R4 (X4.congr fun k => ?_) rfl
            exact (lget_stores_rev (by rw [List.map_fst_zip (by omega)]; exact hnd)).symm)
        rw [hzip] at hfin
        have e5 : (codes.map (ofCode nm)).reverse.map (fun n => bindName env n) = codes.reverse.map fun n => bindName env (ofCode nm n) := by rw [← List.map_reverse, List.map_map]; rfl
        rw [e5]
        exact wpAny_bind (wpAny_mono hfin (fun _ _ h => wpAny_pure h) fun _ _ h => h)
      · cases h2
    · cases h2

/-- x = [.. for ..], stored from within -/
theorem asg_comp (G : GOk g K fa) (S : Snd g n r) (S' : Snd g k (ev g.P k)) (hn : k ≤ n) (hA : Rm A n) {x : Str} {xp : Pos} {e : Expr} {tg : Tg} {p : PE} {pos : Pos} {v : V} {st1 : St} {Q : Flow → Shared → Prop} (hsw : swapsWith e (some (.Name x xp)) pos.line env = pure true) (hc : cTg (cE m) ks (.Name x xp) = some tg) (he : cE m ks e = some p)
    (X : FrOk env ks s.heap T l) (R : Rp g s.heap T st) (h1 : stepE g.P (ev g.P k) p l st = some (v, st1)) (h2 : Mux.assign g.P r tg v l st1 = some (l', st')) (q : PstS g s T env ks .next l' st' Q) : wpAny g.M A (exec (.Assign [.Name x xp] e pos) env) Q E s := by
  have hcomp : isComp e = true := by
    cases hh : isComp e with
    | true => rfl
    | false => rw [swaps_none hh] at hsw; cases hsw
  obtain ⟨m', elt, t, iter, ifs, scope, pos', pe, tg', src, pc, hm, rfl, rfl, C⟩ := cE_comp he hcomp
  rw [arm_exec_Assign]
  refine wpAny_bind (wpAny_standAt (wpAny_bind (m := swapsWithSole [.Name x xp] (.ListComp elt [⟨t, iter, ifs, 0⟩] scope pos') pos.line env) (wpAny_of_eq hsw ?_)))
  rw [if_pos rfl]
  obtain ⟨it, st2, kk, ys, a1, a2, a3, rfl⟩ := comp_to h1
  show wpAny _ _ ((comprehension (.ListComp elt [⟨t, iter, ifs, 0⟩] scope pos') scope env (firstIterPos [⟨t, iter, ifs, 0⟩] pos') (newList []) false (eval iter env) (some fun v => assignAll v [PySem.assign (.Name x xp) env]) >>= fun _ => pure ()) >>= fun _ => pure Flow.next) _ _ _
  refine wpAny_bind (wpAny_bind (comp_ok (Q := fun _ s' => wpAny g.M A (pure ()) (fun _ s'' => wpAny g.M A (pure .next) Q E s'') E s') G S' (hA.less hn) X R C.htg C.hsrc C.hel C.hifs C.hsc C.hts a1 a2 a3 fun h' tk T' D CA e' R' rv hC hC0 hC1 hN => ?_))
  have X' := X.pass e'
  show wpAny _ _ (PySem.assign (.Name x xp) env (.ref D)) _ _ _
  refine assign_ok (s := { s with heap := h', toks := tk }) G S hA tg hc own_env X'.fp X' R' rv h2 fun h'' tk'' T'' e'' R'' X'' => ?_
  obtain ⟨mm, hNs⟩ := hN
  have nC : ¬ Fenv env ks CA := fun hf => by have := X.fp CA hf; rw [hC0] at this; cases this
  refine ⟨mm, hNs.at' fun o ho => e''.priv hC nC ho, fun h3 hs3 => wpAny_pure (wpAny_pure ?_)⟩
  have fpC : FP (fun a => a = CA) T'' := fun a ha => by cases ha; exact e''.role _ _ hC
  have kC : ∀ b o, ¬ (fun a => a = CA) b → h''.get? b = some o → h3.get? b = some o := fun b o nb e => (hs3.2 b nb).trans e
  have aw := (away_new X (F := fun a => a = CA) fun a ha => by cases ha; exact hC0).1
  have eT : Evo (Fenv env ks) s.heap T h'' T'' := Evo.trans (F := Fenv env ks) X.fp (e'.mono fun _ h => h.elim) e''
  exact q h3 tk'' _ .next (eT.letGo (fun a ha => by cases ha; exact ⟨hC1, hC0⟩) kC) (R''.letGo fpC kC) (X''.letGo fpC aw kC) rfl
end

section
variable {g : Glb} {K : Frag} {fa : Nat → Addr} {A : Around} {E : Value → Shared → Prop} {s : Shared} {T : TT} {st st' : St} {env : Env} {ks : Ks} {l l' : Loc} {n m k : Nat}

theorem stepS_ok (G : GOk g K fa) (hS : ∀ j ≤ n, Snd g j (ev g.P j)) (hA : Rm A (n + 1)) {x : Stmt} {p : PS} {fl : Fl} {Q : Flow → Shared → Prop} (hc : cS m k ks x = some p) (X : FrOk env ks s.heap T l) (R : Rp g s.heap T st)
    (he : stepS g.P (ev g.P n) p l st = some (fl, l', st')) (q : PstS g s T env ks fl l' st' Q) : wpAny g.M A (exec x env) Q E s := by
  replace hc := cS_succ hc
  obtain ⟨k, rfl, hc⟩ := hc
  have hA1 := hA.less (Nat.le_succ n)
  have S := hS n (Nat.le_refl _)
  unfold stepCS at hc
  split at hc
  · rename_i e pos
    split at hc
    · cases hc
    · cases hc
    · cases hc
    · rename_i n1 n2 n3
      obtain ⟨w, h1, rfl⟩ := Option.map_eq_some_iff.mp hc
      simp only [stepS] at he
      split at he
      · rename_i v st1 e1
        cases he
        have hnc : isComp e = false := by
          cases e <;> first | rfl | exact absurd rfl (n1 _ _ _ _) | exact absurd rfl (n2 _ _ _ _) | exact absurd rfl (n3 _ _ _ _ _)
        refine wpAny_Expr_any (S.E h1 X hA1 R e1 fun h' tk T' y e' R' ry => q.mono0 X e' R' rfl) ?_ (swaps_none hnc none)
        unfold interactive; rw [X.kind]; rfl
      · cases he
  · cases hc
    simp only [stepS] at he
    cases he
    exact wpAny_Return_none (q.mono0 (h' := s.heap) (tk := s.toks) X .refl R ⟨_, rfl, rfl⟩)
  · obtain ⟨w, h1, rfl⟩ := Option.map_eq_some_iff.mp hc
    simp only [stepS] at he
    split at he
    · rename_i v st1 e1
      cases he
      exact wpAny_Return_some (S.E h1 X hA1 R e1 fun h' tk T' y e' R' ry => q.mono0 X e' R' ⟨_, rfl, ry⟩)
    · cases he
  · rename_i t e pos
    split at hc
    · rename_i tg w h1 h2
      split at hc
      · rename_i ho
        cases hc
        simp only [stepS] at he
        split at he
        · rename_i v st1 e1
          obtain ⟨⟨l2, st2⟩, h3, h4⟩ := Option.map_eq_some_iff.mp he
          cases h4
          by_cases hname : ∃ y yp, t = .Name y yp
          · obtain ⟨y, yp, rfl⟩ := hname
            obtain ⟨b, hb⟩ := swapsName (env := env) (e := e) (line := pos.line) (x := y) (pos := yp)
            cases b with
            | false => exact asg_plain G S hA1 hb h1 h2 ho X R e1 h3 q
            | true =>
              cases n with
              | zero => cases e1
              | succ j => exact asg_comp G S (hS j (Nat.le_succ j)) (Nat.le_succ j) hA1 hb h1 h2 X R e1 h3 q
          · exact asg_plain G S hA1 (swapsOther fun y yp e => hname ⟨y, yp, e⟩) h1 h2 ho X R e1 h3 q
        · cases he
      · cases hc
    · cases hc
  · rename_i y yp o e pos
    split at hc
    · rename_i c op w h1 h2 h3
      cases hc
      simp only [stepS] at he
      split at he
      · rename_i i h4
        split at he
        · rename_i j st1 e1
          cases he
          have hop : o = .Add := by cases o <;> cases h2; rfl
          subst hop
          obtain ⟨h5, h6, rfl⟩ := cVar_spec h1
          have hload : wpAny g.M A (loadName env (ofCode nm c)) (fun old s1 => ∃ tk, s1 = s ∧ old = .int i tk) E s := by
            rcases isLoc_cases h5 with z | z
            · obtain ⟨mm, hn, hm⟩ := X.ns
              obtain ⟨y, k1, tk, rfl⟩ := hm c _ h4 z
              exact wpAny_loadName_local X.kind ((kindOf_of X _).trans z) hn k1 ⟨tk, rfl, rfl⟩
            · obtain ⟨cc, k1, k2, k3, u, k4, k5⟩ := X.cell _ z
              obtain ⟨y, rfl, tk, rfl⟩ := k5 c _ rfl h6 h4
              exact wpAny_loadName_cell X.kind ((kindOf_of X _).trans z) k1 k4 ⟨tk, rfl, rfl⟩
          refine wpAny_AugAssign_Name (wpAny_mono hload (fun old s1 hx => ?_) fun _ _ h => h)
          obtain ⟨tk, rfl, rfl⟩ := hx
          refine S.E h3 X hA1 R e1 fun h' tk' T' y e' R' ry => ?_
          obtain ⟨t2, rfl⟩ := ry
          refine wpAny_iadd_int ?_
          have X' := X.pass e'
          have hb := store_ok (A := A) (E := E) (s := { s1 with heap := h', toks := tk' + 1 }) (F := Fenv env ks) (k := c) (v := .int (i + j)) (y := .int (i + j) tk') (Q := fun _ s' => Q .next s') X' R' h5 h6 ⟨_, rfl⟩ X'.fp (.inl rfl) (fun cc h7 h8 => .inr ⟨_, h7, h8⟩) (X'.fp.live R') (fun h3 tk3 e3 R3 X3 => by
            exact q h3 tk3 T' .next (Evo.trans (F := Fenv env ks) X.fp (e'.mono fun _ h => h.elim) e3) R3 X3 rfl)
          intro Γ p hΓ
          have := hb Γ p hΓ
          rwa [Sem.wp_bindName] at this
        · cases he
      · cases he
    · cases hc
  · split at hc
    · rename_i c a b h1 h2 h3
      cases hc
      simp only [stepS] at he
      split at he
      · rename_i st1 e1
        refine wpAny_If (S.B h1 X hA1 R e1 fun h' tk T' e' R' => ?_)
        rw [if_pos rfl]
        exact exB_ok (s := { s with heap := h', toks := tk }) S hA1 h2 (X.pass e') R' he fun h'' tk'' T'' f e'' R'' X'' hf => q h'' tk'' T'' f (Evo.trans (F := Fenv env ks) X.fp (e'.mono fun _ h => h.elim) e'') R'' X'' hf
      · rename_i st1 e1
        refine wpAny_If (S.B h1 X hA1 R e1 fun h' tk T' e' R' => ?_)
        rw [if_neg (by decide)]
        exact exB_ok (s := { s with heap := h', toks := tk }) S hA1 h3 (X.pass e') R' he fun h'' tk'' T'' f e'' R'' X'' hf => q h'' tk'' T'' f (Evo.trans (F := Fenv env ks) X.fp (e'.mono fun _ h => h.elim) e'') R'' X'' hf
      · cases he
    · cases hc
  · split at hc
    · rename_i c b h1 h2
      cases hc
      refine wpAny_While (while_ok hS hA1 h2 h1 X R (while_to he) fun h' tk T' f e' R' X' hf => ?_)
      exact q h' tk T' f e' R' X' hf
    · cases hc
  · rename_i tt ss bb pp
    split at hc
    · rename_i t src b h1 h2 h3
      split at hc
      · rename_i h4
        cases hc
        simp only [stepS] at he
        have fin : ∀ {it st1 kk}, srcS (ev g.P n) src l st = some (it, st1) → ForI g.P (ev g.P n) t b (getOf it) fl l' st' kk 0 l st1 → wpAny g.M A (exec (.For tt ss bb [] pp) env) Q E s := fun {it st1 kk} a1 a2 => by
          refine wpAny_For (src_ok G S hA1 h2 h1 h4 X R a1 fun h' tk T' I F P e' R' hnew It P0 => ?_) fun y => folded_pure (cSrc_plain h2)
          exact for_ok G S hA1 It h3 h1 X hnew (e'.mono fun _ h => h.elim) R' (X.pass e') P0 a2 fun h'' tk'' T'' f e'' R'' X'' hf => q h'' tk'' T'' f e'' R'' X'' hf
        split at he
        · cases he
        · rename_i xs st1 a1
          exact fin a1 (forL_to rfl he)
        · rename_i kk nn st1 a1
          exact fin a1 (forM_to he)
      · cases hc
    · cases hc
  · cases hc

theorem snd_all (G : GOk g K fa) : ∀ n, Snd g n (ev g.P n) := by
  intro n
  induction n using Nat.strongRecOn with
  | ind n ih =>
    cases n with
    | zero => exact ⟨(fun _ _ _ _ h _ => by cases h), (fun _ _ _ _ h _ => by cases h), (fun _ _ _ _ h _ => by cases h)⟩
    | succ n =>
      have S := ih n (Nat.lt_succ_self _)
      have hr : ∀ v l st w st', (ev g.P n).E (.const v) l st = some (w, st') → w = v ∧ st' = st := fun v l st w st' h => by
        cases n with
        | zero => cases h
        | succ n => cases h; exact ⟨rfl, rfl⟩
      exact ⟨fun hc X hA R he q => stepE_ok G S hA hr hc X R he q, fun hc X hA R he q => stepB_ok G S hA hr hc X R he q, fun hc X hA R he q => stepS_ok G (fun j hj => ih j (Nat.lt_succ_of_le hj)) hA hc X R he q⟩
end
end Mux
namespace Mux
open PySem PySem.W

def fnData (K : Frag) (a : Addr) : Option FuncData := match K.lookup a with
  | some ⟨_, _, .func fd, _⟩ => some fd
  | _ => none
def isNoneV : Value → Bool
  | .none => true
  | _ => false
def dfltChk (K : Frag) (fd : FuncData) (f : Fn) : Bool := match dfltIn K fd.defaults with
  | some D => f.defs == 0 || (match D with
    | some a => a.toList.all isNoneV && a.size == f.defs && decide (f.defs ≤ f.params.length)
    | none => false)
  | none => false
def fnChk (K : Frag) (a : Addr) : Option Fn := match fnData K a with
  | some fd => (match fd.body with
    | .stmts body => if fd.globals = mainGlobals && fd.builtins = builtinsNs && fd.closure.isEmpty && PySem.W.codeIn K fd.code fd.qualname then
        (match cFn fd.params body fd.scope with
        | some f => if dfltChk K fd f && decide f.params.Nodup then some f else none
        | none => none) else none
    | _ => none)
  | none => none
theorem isNoneV_eq {v : Value} (h : isNoneV v = true) : v = .none := by cases v <;> first | rfl | cases h
theorem fnAt_of {g : Glb} {K : Frag} {a : Addr} {f : Fn} (h : fnChk K a = some f) : FnAt g K a f := by
  unfold fnChk at h
  split at h
  · rename_i fd hfd
    unfold fnData at hfd
    split at hfd
    · rename_i oc od fd' sl hlk
      cases hfd
      split at h
      · rename_i body hb
        split at h
        · rename_i hc
          simp only [Bool.and_eq_true, decide_eq_true_eq, List.isEmpty_iff] at hc
          obtain ⟨⟨⟨h1, h2⟩, h3⟩, h4⟩ := hc
          split at h
          · rename_i f' hf
            split at h
            · rename_i hd
              cases h
              simp only [Bool.and_eq_true, decide_eq_true_eq] at hd
              obtain ⟨hd1, hd2⟩ := hd
              refine ⟨⟨oc, od, _, sl, body, hlk, hb, h1, h2, h3, h4, hf, ?_⟩, hd2⟩
              unfold dfltChk at hd1
              split at hd1
              · rename_i D hD
                refine ⟨D, hD, ?_⟩
                rw [Bool.or_eq_true] at hd1
                rcases hd1 with q | q
                · exact .inl (beq_iff_eq.mp q)
                · split at q
                  · rename_i arr
                    simp only [Bool.and_eq_true, decide_eq_true_eq, beq_iff_eq, List.all_eq_true] at q
                    obtain ⟨⟨q1, q2⟩, q3⟩ := q
                    refine .inr ⟨?_, q3⟩
                    congr 1
                    rw [← q2]
                    refine Array.ext' ?_
                    rw [Array.toList_replicate]
                    exact List.eq_replicate_iff.mpr ⟨by simp, fun v hv => isNoneV_eq (q1 v hv)⟩
                  · cases q
              · cases hd1
            · cases h
          · cases h
        · cases h
      · cases h
    · cases hfd
  · cases h

def faF : Nat → Addr
  | 0 => 49
  | 1 => 61
  | 2 => 156
  | 3 => 445
  | 4 => 452
  | 5 => 459
  | 6 => 467
  | 7 => 472
  | 8 => 479
  | 9 => 486
  | 10 => 491
  | 11 => 498
  | 12 => 503
  | 13 => 510
  | 14 => 517
  | 15 => 522
  | 16 => 527
  | 17 => 534
  | 18 => 541
  | 19 => 546
  | 20 => 553
  | 21 => 558
  | 22 => 563
  | 23 => 568
  | 100 => 35
  | 101 => 128
  | 102 => 170
  | 103 => 347
  | 104 => 135
  | 105 => 193
  | 106 => 318
  | 107 => 325
  | 108 => 354
  | 109 => 361
  | 110 => 368
  | 111 => 376
  | 112 => 384
  | 113 => 391
  | 114 => 398
  | 115 => 406
  | 116 => 411
  | 117 => 418
  | 118 => 425
  | 119 => 432
  | _ => 0
def caF : Nat → Addr
  | 0 => 38 | 1 => 145 | 2 => 328 | 3 => 435 | _ => 0
theorem fk0 (p : Params) : fnChk (hd.heap_39 p) 49 = some N0 := by kernel_rfl
theorem fk1 (p : Params) : fnChk (hd.heap_39 p) 61 = some N1 := by kernel_rfl
theorem fk2 (p : Params) : fnChk (hd.heap_39 p) 156 = some N2 := by kernel_rfl
theorem fk3 (p : Params) : fnChk (hd.heap_39 p) 445 = some N3 := by kernel_rfl
theorem fk4 (p : Params) : fnChk (hd.heap_39 p) 452 = some N4 := by kernel_rfl
theorem fk5 (p : Params) : fnChk (hd.heap_39 p) 459 = some N5 := by kernel_rfl
theorem fk6 (p : Params) : fnChk (hd.heap_39 p) 467 = some N6 := by kernel_rfl
theorem fk7 (p : Params) : fnChk (hd.heap_39 p) 472 = some N7 := by kernel_rfl
theorem fk8 (p : Params) : fnChk (hd.heap_39 p) 479 = some N8 := by kernel_rfl
theorem fk9 (p : Params) : fnChk (hd.heap_39 p) 486 = some N9 := by kernel_rfl
theorem fk10 (p : Params) : fnChk (hd.heap_39 p) 491 = some N10 := by kernel_rfl
theorem fk11 (p : Params) : fnChk (hd.heap_39 p) 498 = some N11 := by kernel_rfl
theorem fk12 (p : Params) : fnChk (hd.heap_39 p) 503 = some N12 := by kernel_rfl
theorem fk13 (p : Params) : fnChk (hd.heap_39 p) 510 = some N13 := by kernel_rfl
theorem fk14 (p : Params) : fnChk (hd.heap_39 p) 517 = some N14 := by kernel_rfl
theorem fk15 (p : Params) : fnChk (hd.heap_39 p) 522 = some N15 := by kernel_rfl
theorem fk16 (p : Params) : fnChk (hd.heap_39 p) 527 = some N16 := by kernel_rfl
theorem fk17 (p : Params) : fnChk (hd.heap_39 p) 534 = some N17 := by kernel_rfl
theorem fk18 (p : Params) : fnChk (hd.heap_39 p) 541 = some N18 := by kernel_rfl
theorem fk19 (p : Params) : fnChk (hd.heap_39 p) 546 = some N19 := by kernel_rfl
theorem fk20 (p : Params) : fnChk (hd.heap_39 p) 553 = some N20 := by kernel_rfl
theorem fk21 (p : Params) : fnChk (hd.heap_39 p) 558 = some N21 := by kernel_rfl
theorem fk22 (p : Params) : fnChk (hd.heap_39 p) 563 = some N22 := by kernel_rfl
theorem fk23 (p : Params) : fnChk (hd.heap_39 p) 568 = some N23 := by kernel_rfl
theorem fk100 (p : Params) : fnChk (hd.heap_39 p) 35 = some N100 := by kernel_rfl
theorem fk101 (p : Params) : fnChk (hd.heap_39 p) 128 = some N101 := by kernel_rfl
theorem fk102 (p : Params) : fnChk (hd.heap_39 p) 170 = some N102 := by kernel_rfl
theorem fk103 (p : Params) : fnChk (hd.heap_39 p) 347 = some N103 := by kernel_rfl
theorem fk104 (p : Params) : fnChk (hd.heap_39 p) 135 = some N104 := by kernel_rfl
theorem fk105 (p : Params) : fnChk (hd.heap_39 p) 193 = some N105 := by kernel_rfl
theorem fk106 (p : Params) : fnChk (hd.heap_39 p) 318 = some N106 := by kernel_rfl
theorem fk107 (p : Params) : fnChk (hd.heap_39 p) 325 = some N107 := by kernel_rfl
theorem fk108 (p : Params) : fnChk (hd.heap_39 p) 354 = some N108 := by kernel_rfl
theorem fk109 (p : Params) : fnChk (hd.heap_39 p) 361 = some N109 := by kernel_rfl
theorem fk110 (p : Params) : fnChk (hd.heap_39 p) 368 = some N110 := by kernel_rfl
theorem fk111 (p : Params) : fnChk (hd.heap_39 p) 376 = some N111 := by kernel_rfl
theorem fk112 (p : Params) : fnChk (hd.heap_39 p) 384 = some N112 := by kernel_rfl
theorem fk113 (p : Params) : fnChk (hd.heap_39 p) 391 = some N113 := by kernel_rfl
theorem fk114 (p : Params) : fnChk (hd.heap_39 p) 398 = some N114 := by kernel_rfl
theorem fk115 (p : Params) : fnChk (hd.heap_39 p) 406 = some N115 := by kernel_rfl
theorem fk116 (p : Params) : fnChk (hd.heap_39 p) 411 = some N116 := by kernel_rfl
theorem fk117 (p : Params) : fnChk (hd.heap_39 p) 418 = some N117 := by kernel_rfl
theorem fk118 (p : Params) : fnChk (hd.heap_39 p) 425 = some N118 := by kernel_rfl
theorem fk119 (p : Params) : fnChk (hd.heap_39 p) 432 = some N119 := by kernel_rfl

set_option maxHeartbeats 2000000 in
theorem fk (p : Params) : ∀ i f, P.fn i = some f → fnChk (hd.heap_39 p) (faF i) = some f := by
  intro i f h
  unfold P at h
  dsimp only at h
  split at h
  · exact (Option.some.inj h) ▸ fk0 p
  · exact (Option.some.inj h) ▸ fk1 p
  · exact (Option.some.inj h) ▸ fk2 p
  · exact (Option.some.inj h) ▸ fk3 p
  · exact (Option.some.inj h) ▸ fk4 p
  · exact (Option.some.inj h) ▸ fk5 p
  · exact (Option.some.inj h) ▸ fk6 p
  · exact (Option.some.inj h) ▸ fk7 p
  · exact (Option.some.inj h) ▸ fk8 p
  · exact (Option.some.inj h) ▸ fk9 p
  · exact (Option.some.inj h) ▸ fk10 p
  · exact (Option.some.inj h) ▸ fk11 p
  · exact (Option.some.inj h) ▸ fk12 p
  · exact (Option.some.inj h) ▸ fk13 p
  · exact (Option.some.inj h) ▸ fk14 p
  · exact (Option.some.inj h) ▸ fk15 p
  · exact (Option.some.inj h) ▸ fk16 p
  · exact (Option.some.inj h) ▸ fk17 p
  · exact (Option.some.inj h) ▸ fk18 p
  · exact (Option.some.inj h) ▸ fk19 p
  · exact (Option.some.inj h) ▸ fk20 p
  · exact (Option.some.inj h) ▸ fk21 p
  · exact (Option.some.inj h) ▸ fk22 p
  · exact (Option.some.inj h) ▸ fk23 p
  · exact (Option.some.inj h) ▸ fk100 p
  · exact (Option.some.inj h) ▸ fk101 p
  · exact (Option.some.inj h) ▸ fk102 p
  · exact (Option.some.inj h) ▸ fk103 p
  · exact (Option.some.inj h) ▸ fk104 p
  · exact (Option.some.inj h) ▸ fk105 p
  · exact (Option.some.inj h) ▸ fk106 p
  · exact (Option.some.inj h) ▸ fk107 p
  · exact (Option.some.inj h) ▸ fk108 p
  · exact (Option.some.inj h) ▸ fk109 p
  · exact (Option.some.inj h) ▸ fk110 p
  · exact (Option.some.inj h) ▸ fk111 p
  · exact (Option.some.inj h) ▸ fk112 p
  · exact (Option.some.inj h) ▸ fk113 p
  · exact (Option.some.inj h) ▸ fk114 p
  · exact (Option.some.inj h) ▸ fk115 p
  · exact (Option.some.inj h) ▸ fk116 p
  · exact (Option.some.inj h) ▸ fk117 p
  · exact (Option.some.inj h) ▸ fk118 p
  · exact (Option.some.inj h) ▸ fk119 p
  · cases h

def isSN : Option (Option Value) → Bool
  | some none => true
  | _ => false
theorem isSN_eq {x : Option (Option Value)} (h : isSN x = true) : x = some none := by
  unfold isSN at h
  split at h
  · rfl
  · cases h
def isRef (a : Addr) : Option (Option Value) → Bool
  | some (some (.ref b)) => a == b
  | _ => false
theorem isRef_eq {a : Addr} {x : Option (Option Value)} (h : isRef a x = true) : x = some (some (.ref a)) := by
  unfold isRef at h
  split at h
  · rw [beq_iff_eq.mp h]
  · cases h
def attrL : Nat → List Nat
  | 0 => [0, 1, 2, 3, 4, 5, 6]
  | 1 => [7, 8, 9, 10, 11, 12, 13, 14]
  | 2 => [7, 15, 16, 17, 18, 19, 20, 21, 22, 14]
  | 3 => [7, 15, 23, 24, 14, 18, 25]
  | _ => []
theorem attrL_of {c a : Nat} (h : P.attr c a = true) : a ∈ attrL c := by
  unfold P at h
  dsimp only at h
  split at h <;> first | (cases h; done) | (exact List.contains_iff_mem.mp h)
def methL : Nat → List (Nat × Nat)
  | 1 => [(1, 104)]
  | 2 => [(2, 105), (3, 106), (4, 107)]
  | 3 => [(5, 108), (6, 109), (7, 110), (8, 111), (9, 112), (10, 113), (11, 114), (12, 115), (13, 116), (14, 117), (15, 118), (16, 119)]
  | _ => []
theorem methL_of {c m f : Nat} (h : P.meth c m = some f) : (m, f) ∈ methL c := by
  unfold P at h
  dsimp only at h
  split at h <;> first | (cases h; done) | (cases h; decide)
def attrChk (K : Frag) (c : Nat) : Bool := (attrL c).all fun a => decide (a < nm.length) && isSN (findIn K (.ref (caF c)) (ofCode nm a)) && isSN (takerIn K (caF c) (ofCode nm a))
def methChk (K : Frag) (c : Nat) : Bool := (methL c).all fun m => isRef (faF m.2) (findIn K (.ref (caF c)) (ofCode unm m.1)) && isFn K (.ref (faF m.2))
def apartChk : Bool := nm.all fun x => unm.all fun y => !(x == y) || false
theorem attr_chk (p : Params) (c : Nat) (h : c < 4) : attrChk (hd.heap_39 p) c = true := by
  match c, h with
  | 0, _ => kernel_rfl
  | 1, _ => kernel_rfl
  | 2, _ => kernel_rfl
  | 3, _ => kernel_rfl
theorem meth_chk (p : Params) (c : Nat) (h : c < 4) : methChk (hd.heap_39 p) c = true := by
  match c, h with
  | 0, _ => kernel_rfl
  | 1, _ => kernel_rfl
  | 2, _ => kernel_rfl
  | 3, _ => kernel_rfl
theorem apart_chk : (List.range 4).all (fun c => (attrL c).all fun a => (methL c).all fun m => !(ofCode nm a == ofCode unm m.1)) = true := by decide +kernel
def clsChk (K : Frag) (c : Nat) : Bool := plainGet K (caF c) Str.empty && hasDictIn K (caF c) && plainOver K (caF c) && makesIn K (caF c)
theorem cls_chk (p : Params) (c : Nat) (h : c < 4) : clsChk (hd.heap_39 p) c = true := by
  match c, h with
  | 0, _ => kernel_rfl
  | 1, _ => kernel_rfl
  | 2, _ => kernel_rfl
  | 3, _ => kernel_rfl
theorem set_chk (p : Params) (c : Nat) (h : c < 4) : findIn (hd.heap_39 p) (.ref (caF c)) "__setattr__" = some (some (.builtin "object.__setattr__")) := by
  match c, h with
  | 0, _ => kernel_rfl
  | 1, _ => kernel_rfl
  | 2, _ => kernel_rfl
  | 3, _ => kernel_rfl
theorem init_chk (p : Params) (c f : Nat) (h : P.init c = some f) : findIn (hd.heap_39 p) (.ref (caF c)) "__init__" = some (some (.ref (faF f))) ∧ typeIn (hd.heap_39 p) (.ref (faF f)) = some (.type "function") := by
  unfold P at h
  dsimp only at h
  split at h <;> first | (cases h; done) | (cases h; exact ⟨by kernel_rfl, by kernel_rfl⟩)
theorem clsOk {g : Glb} {p : Params} (hP : g.P = P) (hc : g.ca = caF) (c : Nat) (h : c < 4) : ClsOk g (hd.heap_39 p) faF c := by
  have h1 := cls_chk p c h
  unfold clsChk at h1
  simp only [Bool.and_eq_true] at h1
  obtain ⟨⟨⟨a1, a2⟩, a3⟩, a4⟩ := h1
  have h2 := attr_chk p c h
  have h3 := meth_chk p c h
  unfold attrChk at h2
  unfold methChk at h3
  rw [List.all_eq_true] at h2 h3
  refine ⟨by rw [hc]; exact a1, by rw [hc]; exact a2, by rw [hc]; exact set_chk p c h, by rw [hc]; exact a3, fun a ha => ?_, fun m f hm => ?_, by rw [hc]; exact a4, fun f hf => ?_⟩
  · rw [hP] at ha
    have := h2 a (attrL_of ha)
    simp only [Bool.and_eq_true, decide_eq_true_eq] at this
    rw [hc]
    exact ⟨this.1.1, isSN_eq this.1.2, isSN_eq this.2⟩
  · rw [hP] at hm
    have := h3 (m, f) (methL_of hm)
    simp only [Bool.and_eq_true] at this
    rw [hc]
    refine ⟨isRef_eq this.1, this.2, fun a ha => ?_⟩
    rw [hP] at ha
    have h4 := List.all_eq_true.mp (List.all_eq_true.mp (List.all_eq_true.mp apart_chk c (List.mem_range.mpr h)) a (attrL_of ha)) (m, f) (methL_of hm)
    simpa using h4
  · rw [hP] at hf
    rw [hc]; exact init_chk p c f hf

def fnmChk (K : Frag) : Bool := (List.range 24).all fun i => isRef (faF i) (nsIn K mainGlobals (ofCode fnm i))
def cnmChk (K : Frag) : Bool := (List.range 4).all fun i => isRef (caF i) (nsIn K mainGlobals (ofCode cnm i))
theorem fnm_chk (p : Params) : fnmChk (hd.heap_39 p) = true := by kernel_rfl
theorem cnm_chk (p : Params) : cnmChk (hd.heap_39 p) = true := by kernel_rfl
theorem fnm_len : fnm.length = 24 := by decide +kernel
theorem cnm_len : cnm.length = 4 := by decide +kernel
def bltN : List Str := [("len" : Str), "sorted", "max", "min", "dict", "list", "isinstance", "bool", "range", "enumerate"]
theorem blt_none (p : Params) : (bltN.all fun x => isSN (nsIn (hd.heap_39 p) mainGlobals x)) = true := by kernel_rfl
theorem bltV_mem {x : Str} {v : Value} (h : bltV x = some v) : x ∈ bltN := by
  unfold bltV at h
  repeat (first | (split at h; (rename_i q; subst q; decide +kernel)) | (cases h; done))
theorem blt_boot {x : Str} {v : Value} (h : bltV x = some v) : bootBuiltins x = some v ∧ x ≠ ("__name__" : Str) := by
  unfold bltV at h
  repeat (first | (split at h; (rename_i q; subst q; cases h; exact ⟨by first | boot_fast | kernel_rfl, by decide +kernel⟩)) | (cases h; done))

theorem l568 (p : Params) : ((hd.heap_39 p).lookup 568).isSome = true := by kernel_rfl
theorem l568' {p : Params} {h : Heap} (X : (hd.heap_39 p).In h) : ∃ b o, sysModules < b ∧ h.get? b = some o := by
  obtain ⟨o, ho⟩ := Option.isSome_iff_exists.mp (l568 p)
  exact ⟨568, o, by decide, X 568 o ho⟩
def mkG (prog : Program) (w : World) (h : Heap) (X : (hd.heap_39 w.params).In h) : Glb := ⟨prog, w, h, caF, P, l568' X⟩
theorem gok {prog : Program} {w : World} {h : Heap} (X : (hd.heap_39 w.params).In h) (hn : h.NoLimit) {mb : Str → Option Value} (hb : h.Ns builtinsNs mb) (hmb : ∀ x : Str, x ≠ "__name__" → mb x = bootBuiltins x) : GOk (mkG prog w h X) (hd.heap_39 w.params) faF where
  X := X
  C := fun c hc => clsOk rfl rfl c hc
  hb := trivial
  nolimit := hn
  gfn := fun x i hi => by
    obtain ⟨h1, h2⟩ := codeIn_spec hi
    rw [fnm_len] at h1
    rw [← h2]
    exact isRef_eq (List.all_eq_true.mp (fnm_chk w.params) i (List.mem_range.mpr h1))
  gcl := fun x i hi => by
    obtain ⟨h1, h2⟩ := codeIn_spec hi
    rw [cnm_len] at h1
    rw [← h2]
    exact isRef_eq (List.all_eq_true.mp (cnm_chk w.params) i (List.mem_range.mpr h1))
  gbl := ⟨mb, hb, fun x v hx => ⟨isSN_eq (List.all_eq_true.mp (blt_none w.params) x (bltV_mem hx)), by rw [hmb x (blt_boot hx).2]; exact (blt_boot hx).1⟩⟩
  fn := fun i f hf => fnAt_of (fk w.params i f hf)
end Mux
namespace Mux

def W1 {α : Type} (x : Option α) (Q : α → Prop) : Prop := ∃ v, x = some v ∧ Q v
def W2 {α : Type} (x : Option (α × St)) (Q : α → St → Prop) : Prop := ∃ v s, x = some (v, s) ∧ Q v s
def W3 (x : Option (Fl × Loc × St)) (Q : Fl → Loc → St → Prop) : Prop := ∃ f l s, x = some (f, l, s) ∧ Q f l s
theorem W1.of {α : Type} {x : Option α} {v : α} {Q : α → Prop} (h : x = some v) (q : Q v) : W1 x Q := ⟨v, h, q⟩
theorem W2.of {α : Type} {x : Option (α × St)} {v : α} {s : St} {Q : α → St → Prop} (h : x = some (v, s)) (q : Q v s) : W2 x Q := ⟨v, s, h, q⟩
theorem W2.imp {α : Type} {x : Option (α × St)} {Q Q' : α → St → Prop} (h : W2 x Q) (q : ∀ v s, Q v s → Q' v s) : W2 x Q' := let ⟨v, s, a, b⟩ := h; ⟨v, s, a, q v s b⟩
theorem W3.imp {x : Option (Fl × Loc × St)} {Q Q' : Fl → Loc → St → Prop} (h : W3 x Q) (q : ∀ f l s, Q f l s → Q' f l s) : W3 x Q' := let ⟨v, l, s, a, b⟩ := h; ⟨v, l, s, a, q v l s b⟩

section
variable {n : Nat} {l : Loc} {s : St} {Q : V → St → Prop}
theorem ev_E {e : PE} : (ev P (n + 1)).E e l s = stepE P (ev P n) e l s := rfl
theorem ev_B {e : PE} : (ev P (n + 1)).B e l s = stepB P (ev P n) e l s := rfl
theorem ev_S {e : PS} : (ev P (n + 1)).S e l s = stepS P (ev P n) e l s := rfl

theorem E_const {v : V} (q : Q v s) : W2 ((ev P (n + 1)).E (.const v) l s) Q := ⟨v, s, rfl, q⟩
theorem E_var {x : Nat} {v : V} (h : lget x l = some v) (q : Q v s) : W2 ((ev P (n + 1)).E (.var x) l s) Q := ⟨v, s, by show (lget x l).map _ = _; rw [h]; rfl, q⟩
theorem E_attr {e : PE} {a : Nat} (h : W2 ((ev P n).E e l s) fun v s => W1 (getA P s a v) fun w => Q w s) : W2 ((ev P (n + 1)).E (.attr e a) l s) Q := by
  obtain ⟨v, s1, h1, w, h2, q⟩ := h
  exact ⟨w, s1, by rw [ev_E]; simp only [stepE, h1, h2, Option.map_some], q⟩
theorem E_idx {e i : PE} (h : W2 ((ev P n).E e l s) fun o s => W2 ((ev P n).E i l s) fun k s => W1 (getI s o k) fun w => Q w s) : W2 ((ev P (n + 1)).E (.idx e i) l s) Q := by
  obtain ⟨v, s1, h1, k, s2, h2, w, h3, q⟩ := h
  exact ⟨w, s2, by rw [ev_E]; simp only [stepE, h1, h2, h3, Option.map_some], q⟩
theorem E_upto {e : PE} {k : Nat} (h : W2 ((ev P n).E e l s) fun v s => ∃ xs, v = .list xs ∧ (xs.length ≤ 1000 ∧ k ≤ 1000) ∧ Q (.list (xs.take k)) s) : W2 ((ev P (n + 1)).E (.upto e k) l s) Q := by
  obtain ⟨v, s1, h1, xs, rfl, h2, q⟩ := h
  exact ⟨_, s1, by rw [ev_E]; simp only [stepE, h1]; rw [if_pos h2], q⟩
theorem E_rev {e : PE} (h : W2 ((ev P n).E e l s) fun v s => ∃ xs, v = .list xs ∧ xs.length ≤ 1000 ∧ Q (.list xs.reverse) s) : W2 ((ev P (n + 1)).E (.rev e) l s) Q := by
  obtain ⟨v, s1, h1, xs, rfl, h2, q⟩ := h
  exact ⟨_, s1, by rw [ev_E]; simp only [stepE, h1]; rw [if_pos h2], q⟩
theorem E_bin {o : Op} {a b : PE} (h : W2 ((ev P n).E a l s) fun x s => W2 ((ev P n).E b l s) fun y s => W1 (binS s o x y) fun w => Q w s) : W2 ((ev P (n + 1)).E (.bin o a b) l s) Q := by
  obtain ⟨v, s1, h1, k, s2, h2, w, h3, q⟩ := h
  exact ⟨w, s2, by rw [ev_E]; simp only [stepE, h1, h2, h3, Option.map_some], q⟩
theorem E_cmp {o : CO} {a b : PE} (h : W2 ((ev P n).E a l s) fun x s => W2 ((ev P n).E b l s) fun y s => W1 (cmpS s o x y) fun w => Q (.bool w) s) : W2 ((ev P (n + 1)).E (.cmp o a b) l s) Q := by
  obtain ⟨v, s1, h1, k, s2, h2, w, h3, q⟩ := h
  exact ⟨.bool w, s2, by rw [ev_E]; simp only [stepE, h1, h2, h3, Option.map_some], q⟩
theorem E_not {e : PE} (h : W2 ((ev P n).E e l s) fun v s => ∃ b, v = .bool b ∧ Q (.bool (!b)) s) : W2 ((ev P (n + 1)).E (.not e) l s) Q := by
  obtain ⟨v, s1, h1, b, rfl, q⟩ := h
  exact ⟨_, s1, by rw [ev_E]; simp only [stepE, h1], q⟩
theorem E_neg {e : PE} (h : W2 ((ev P n).E e l s) fun v s => ∃ b, v = .int b ∧ Q (.int (-b)) s) : W2 ((ev P (n + 1)).E (.neg e) l s) Q := by
  obtain ⟨v, s1, h1, b, rfl, q⟩ := h
  exact ⟨_, s1, by rw [ev_E]; simp only [stepE, h1], q⟩
theorem E_and {a b : PE} (h : W2 ((ev P n).E a l s) fun v s => ∃ c, v = .bool c ∧ (c = false → Q (.bool false) s) ∧ (c = true → W2 ((ev P n).E b l s) Q)) : W2 ((ev P (n + 1)).E (.bop true [a, b]) l s) Q := by
  obtain ⟨v, s1, h1, c, rfl, q1, q2⟩ := h
  cases c with
  | false => exact ⟨_, s1, by rw [ev_E]; simp only [stepE, bopE, h1]; rfl, q1 rfl⟩
  | true =>
    obtain ⟨w, s2, h2, q⟩ := q2 rfl
    exact ⟨w, s2, by rw [ev_E]; simp only [stepE, bopE, h1, h2]; rfl, q⟩
theorem E_or {a b : PE} (h : W2 ((ev P n).E a l s) fun v s => ∃ c, v = .bool c ∧ (c = true → Q (.bool true) s) ∧ (c = false → W2 ((ev P n).E b l s) Q)) : W2 ((ev P (n + 1)).E (.bop false [a, b]) l s) Q := by
  obtain ⟨v, s1, h1, c, rfl, q1, q2⟩ := h
  cases c with
  | true => exact ⟨_, s1, by rw [ev_E]; simp only [stepE, bopE, h1]; rfl, q1 rfl⟩
  | false =>
    obtain ⟨w, s2, h2, q⟩ := q2 rfl
    exact ⟨w, s2, by rw [ev_E]; simp only [stepE, bopE, h1, h2]; rfl, q⟩
theorem E_ite {c a b : PE} (h : W2 ((ev P n).B c l s) fun t s => (t = true → W2 ((ev P n).E a l s) Q) ∧ (t = false → W2 ((ev P n).E b l s) Q)) : W2 ((ev P (n + 1)).E (.ite c a b) l s) Q := by
  obtain ⟨t, s1, h1, q1, q2⟩ := h
  cases t with
  | true =>
    obtain ⟨w, s2, h2, q⟩ := q1 rfl
    exact ⟨w, s2, by rw [ev_E]; simp only [stepE, h1, h2], q⟩
  | false =>
    obtain ⟨w, s2, h2, q⟩ := q2 rfl
    exact ⟨w, s2, by rw [ev_E]; simp only [stepE, h1, h2], q⟩
theorem L_nil {r : Rec} {Q : List V → St → Prop} (q : Q [] s) : W2 (evL r [] l s) Q := ⟨[], s, rfl, q⟩
theorem L_cons {r : Rec} {e : PE} {es : List PE} {Q : List V → St → Prop} (h : W2 (r.E e l s) fun v s => W2 (evL r es l s) fun vs s => Q (v :: vs) s) : W2 (evL r (e :: es) l s) Q := by
  obtain ⟨v, s1, h1, vs, s2, h2, q⟩ := h
  exact ⟨v :: vs, s2, by simp only [evL, h1, h2], q⟩
theorem E_list {es : List PE} (h : W2 (evL (ev P n) es l s) fun vs s => vs.length ≤ 1000 ∧ Q (.list vs) s) : W2 ((ev P (n + 1)).E (.list es) l s) Q := by
  obtain ⟨v, s1, h1, h2, q⟩ := h
  exact ⟨_, s1, by rw [ev_E]; simp only [stepE, h1]; rw [if_pos h2], q⟩
theorem E_tup {es : List PE} (h : W2 (evL (ev P n) es l s) fun vs s => vs.length ≤ 1000 ∧ Q (.tup vs) s) : W2 ((ev P (n + 1)).E (.tup es) l s) Q := by
  obtain ⟨v, s1, h1, h2, q⟩ := h
  exact ⟨_, s1, by rw [ev_E]; simp only [stepE, h1]; rw [if_pos h2], q⟩
theorem E_ml {es : List PE} (h : W2 (evL (ev P n) es l s) fun vs s => vs.length ≤ 1000 ∧ Q (.ml s.mls.length) { s with mls := s.mls ++ [vs] }) : W2 ((ev P (n + 1)).E (.ml es) l s) Q := by
  obtain ⟨v, s1, h1, h2, q⟩ := h
  exact ⟨_, _, by rw [ev_E]; simp only [stepE, h1]; rw [if_pos h2], q⟩
theorem E_dict0 (q : Q (.dict s.dicts.length) { s with dicts := s.dicts ++ [[]] }) : W2 ((ev P (n + 1)).E .dict0 l s) Q := ⟨_, _, rfl, q⟩
theorem E_call {f : Nat} {as : List PE} (h : W2 (evL (ev P n) as l s) fun vs s => W2 (callF P (ev P n) f vs s) Q) : W2 ((ev P (n + 1)).E (.call f as) l s) Q := by
  obtain ⟨vs, s1, h1, v, s2, h2, q⟩ := h
  exact ⟨v, s2, by rw [ev_E]; simp only [stepE, h1, h2], q⟩
theorem E_new {c : Nat} {as : List PE} (h : W2 (evL (ev P n) as l s) fun vs s => W2 (newF P (ev P n) c vs s) Q) : W2 ((ev P (n + 1)).E (.new c as) l s) Q := by
  obtain ⟨vs, s1, h1, v, s2, h2, q⟩ := h
  exact ⟨v, s2, by rw [ev_E]; simp only [stepE, h1, h2], q⟩
theorem E_meth {e : PE} {m : Nat} {as : List PE} (h : W2 ((ev P n).E e l s) fun o s => ∃ c i f, o = .obj c i ∧ P.meth c m = some f ∧ W2 (evL (ev P n) as l s) fun vs s => W2 (callF P (ev P n) f (.obj c i :: vs) s) Q) : W2 ((ev P (n + 1)).E (.meth e m as) l s) Q := by
  obtain ⟨o, s0, h0, c, i, f, rfl, hf, vs, s1, h1, v, s2, h2, q⟩ := h
  exact ⟨v, s2, by rw [ev_E]; simp only [stepE, h0, hf, h1, h2], q⟩
theorem E_bi {f : BF} {e : PE} (h : W2 ((ev P n).E e l s) fun v s => W2 (biS s f v) Q) : W2 ((ev P (n + 1)).E (.bi f e) l s) Q := by
  obtain ⟨v, s1, h1, w, s2, h2, q⟩ := h
  exact ⟨w, s2, by rw [ev_E]; simp only [stepE, h1, h2], q⟩
theorem E_bm {m : BM} {e : PE} {as : List PE} (h : W2 ((ev P n).E e l s) fun v s => W2 (evL (ev P n) as l s) fun vs s => W2 (bmS s m v vs) Q) : W2 ((ev P (n + 1)).E (.bm m e as) l s) Q := by
  obtain ⟨v, s1, h1, vs, s2, h2, w, s3, h3, q⟩ := h
  exact ⟨w, s3, by rw [ev_E]; simp only [stepE, h1, h2, h3], q⟩
theorem E_comp {elt : PE} {t : Tg} {src : Src} {c : Option PE} (h : W2 (srcS (ev P n) src l s) fun it s => match it with
    | .items xs => W2 (compL P (ev P n) elt t c (lrm t.vars l) xs s) fun ys s => Q (.list ys) s
    | .place k m => W2 (compM P (ev P n) elt t c (lrm t.vars l) k m 0 s) fun ys s => Q (.list ys) s) : W2 ((ev P (n + 1)).E (.comp elt t src c) l s) Q := by
  obtain ⟨it, s1, h1, q⟩ := h
  cases it with
  | items xs =>
    obtain ⟨ys, s2, h2, q⟩ := q
    exact ⟨_, s2, by rw [ev_E]; simp only [stepE, h1, h2, Option.map_some], q⟩
  | place k m =>
    obtain ⟨ys, s2, h2, q⟩ := q
    exact ⟨_, s2, by rw [ev_E]; simp only [stepE, h1, h2, Option.map_some], q⟩
theorem E_dict1 {k v : PE} (h : W2 ((ev P n).E k l { s with dicts := s.dicts ++ [[]] }) fun x s1 => ∃ i, x = .int i ∧ W2 ((ev P n).E v l s1) fun y s2 => s2.dicts[s.dicts.length]? = some [] ∧ Q (.dict s.dicts.length) { s2 with dicts := s2.dicts.set s.dicts.length [(i, y)] }) :
    W2 ((ev P (n + 1)).E (.dict1 k v) l s) Q := by
  obtain ⟨x, s1, h1, i, rfl, y, s2, h2, h3, q⟩ := h
  exact ⟨_, _, by rw [ev_E]; simp only [stepE, h1, h2, h3], q⟩
theorem E_sdict {ks : List Nat} {es : List PE} (h : W2 (evL (ev P n) es l { s with sds := s.sds ++ [[]] }) fun vs s1 => s1.sds[s.sds.length]? = some [] ∧ ks.length = vs.length ∧ Q (.sd s.sds.length) { s1 with sds := s1.sds.set s.sds.length (ks.zip vs) }) :
    W2 ((ev P (n + 1)).E (.sdict ks es) l s) Q := by
  obtain ⟨vs, s1, h1, h2, h3, q⟩ := h
  exact ⟨_, _, by rw [ev_E]; simp only [stepE, h1, h2]; rw [if_pos h3], q⟩

/-! tests -/
section
variable {Q : Bool → St → Prop}
theorem B_not {e : PE} (h : W2 ((ev P n).B e l s) fun b s => Q (!b) s) : W2 ((ev P (n + 1)).B (.not e) l s) Q := by
  obtain ⟨b, s1, h1, q⟩ := h
  exact ⟨_, s1, by rw [ev_B]; simp only [stepB, h1], q⟩
theorem B_and {a b : PE} (h : W2 ((ev P n).B a l s) fun c s => (c = false → Q false s) ∧ (c = true → W2 ((ev P n).B b l s) Q)) : W2 ((ev P (n + 1)).B (.bop true [a, b]) l s) Q := by
  obtain ⟨c, s1, h1, q1, q2⟩ := h
  cases c with
  | false => exact ⟨_, s1, by rw [ev_B]; simp only [stepB, bopB, h1]; rfl, q1 rfl⟩
  | true =>
    obtain ⟨w, s2, h2, q⟩ := q2 rfl
    cases w <;> exact ⟨_, s2, by rw [ev_B]; simp only [stepB, bopB, h1, h2]; rfl, q⟩
theorem B_or {a b : PE} (h : W2 ((ev P n).B a l s) fun c s => (c = true → Q true s) ∧ (c = false → W2 ((ev P n).B b l s) Q)) : W2 ((ev P (n + 1)).B (.bop false [a, b]) l s) Q := by
  obtain ⟨c, s1, h1, q1, q2⟩ := h
  cases c with
  | true => exact ⟨_, s1, by rw [ev_B]; simp only [stepB, bopB, h1]; rfl, q1 rfl⟩
  | false =>
    obtain ⟨w, s2, h2, q⟩ := q2 rfl
    cases w <;> exact ⟨_, s2, by rw [ev_B]; simp only [stepB, bopB, h1, h2]; rfl, q⟩
theorem B_or3 {a b c : PE} (h : W2 ((ev P n).B a l s) fun x s => (x = true → Q true s) ∧ (x = false → W2 ((ev P n).B b l s) fun y s => (y = true → Q true s) ∧ (y = false → W2 ((ev P n).B c l s) Q))) : W2 ((ev P (n + 1)).B (.bop false [a, b, c]) l s) Q := by
  obtain ⟨x, s1, h1, q1, q2⟩ := h
  cases x with
  | true => exact ⟨_, s1, by rw [ev_B]; simp only [stepB, bopB, h1]; rfl, q1 rfl⟩
  | false =>
    obtain ⟨y, s2, h2, q3, q4⟩ := q2 rfl
    cases y with
    | true => exact ⟨_, s2, by rw [ev_B]; simp only [stepB, bopB, h1, h2]; rfl, q3 rfl⟩
    | false =>
      obtain ⟨w, s3, h3, q⟩ := q4 rfl
      cases w <;> exact ⟨_, s3, by rw [ev_B]; simp only [stepB, bopB, h1, h2, h3]; rfl, q⟩
theorem B_cmp {o : CO} {a b : PE} (h : W2 ((ev P n).E a l s) fun x s => W2 ((ev P n).E b l s) fun y s => W1 (cmpS s o x y) fun w => Q w s) : W2 ((ev P (n + 1)).B (.cmp o a b) l s) Q := by
  obtain ⟨v, s1, h1, k, s2, h2, w, h3, q⟩ := h
  exact ⟨w, s2, by rw [ev_B]; simp only [stepB, stepE, h1, h2, h3, Option.map_some], q⟩
theorem B_var {x : Nat} {b : Bool} (h : lget x l = some (.bool b)) (q : Q b s) : W2 ((ev P (n + 1)).B (.var x) l s) Q :=
  ⟨b, s, by rw [ev_B]; simp only [stepB, stepE, h, Option.map_some], q⟩
theorem B_attr {e : PE} {a : Nat} (h : W2 ((ev P n).E e l s) fun v s => W1 (getA P s a v) fun w => ∃ b, w = .bool b ∧ Q b s) : W2 ((ev P (n + 1)).B (.attr e a) l s) Q := by
  obtain ⟨v, s1, h1, w, h2, b, rfl, q⟩ := h
  exact ⟨b, s1, by rw [ev_B]; simp only [stepB, stepE, h1, h2, Option.map_some], q⟩
theorem B_idx {e i : PE} (h : W2 ((ev P n).E e l s) fun o s => W2 ((ev P n).E i l s) fun k s => W1 (getI s o k) fun w => ∃ b, w = .bool b ∧ Q b s) : W2 ((ev P (n + 1)).B (.idx e i) l s) Q := by
  obtain ⟨v, s1, h1, k, s2, h2, w, h3, b, rfl, q⟩ := h
  exact ⟨b, s2, by rw [ev_B]; simp only [stepB, stepE, h1, h2, h3, Option.map_some], q⟩
theorem B_call {f : Nat} {as : List PE} (h : W2 (evL (ev P n) as l s) fun vs s => W2 (callF P (ev P n) f vs s) fun v s => ∃ b, v = .bool b ∧ Q b s) : W2 ((ev P (n + 1)).B (.call f as) l s) Q := by
  obtain ⟨vs, s1, h1, v, s2, h2, b, rfl, q⟩ := h
  exact ⟨b, s2, by rw [ev_B]; simp only [stepB, stepE, h1, h2], q⟩
end

/-! sources -/
section
variable {r : Rec} {Q : It → St → Prop}
theorem src_val {e : PE} (h : W2 (r.E e l s) fun v s => (∃ xs, (v = .list xs ∨ v = .tup xs) ∧ xs.length ≤ 1000 ∧ Q (.items xs) s) ∨ (∃ k xs, v = .ml k ∧ s.mls[k]? = some xs ∧ xs.length ≤ 1000 ∧ Q (.place k (xs.length + 1)) s)) : W2 (srcS r (.val e) l s) Q := by
  obtain ⟨v, s1, h1, q⟩ := h
  rcases q with ⟨xs, rfl | rfl, h2, q⟩ | ⟨k, xs, rfl, h2, h3, q⟩
  · exact ⟨_, s1, by simp only [srcS, h1]; rw [if_pos h2], q⟩
  · exact ⟨_, s1, by simp only [srcS, h1]; rw [if_pos h2], q⟩
  · exact ⟨_, s1, by simp only [srcS, h1, h2, Option.bind_some]; rw [if_pos h3], q⟩
theorem src_range {es : List PE} (h : W2 (evL r es l s) fun vs s => W1 (rangeS vs) fun xs => Q (.items xs) s) : W2 (srcS r (.range es) l s) Q := by
  obtain ⟨vs, s1, h1, xs, h2, q⟩ := h
  exact ⟨_, s1, by simp only [srcS, h1, h2, Option.map_some], q⟩
theorem src_enum {e : PE} (h : W2 (r.E e l s) fun v s => ∃ xs, v = .list xs ∧ xs.length ≤ 1000 ∧ Q (.items (enumFrom 0 xs)) s) : W2 (srcS r (.enum e) l s) Q := by
  obtain ⟨v, s1, h1, xs, rfl, h2, q⟩ := h
  exact ⟨_, s1, by simp only [srcS, h1]; rw [if_pos h2], q⟩
end

/-! statements -/
section
variable {Q : Fl → Loc → St → Prop}
theorem X_nil {r : Rec} (q : Q .next l s) : W3 (exB r [] l s) Q := ⟨.next, l, s, rfl, q⟩
theorem X_cons {r : Rec} {x : PS} {xs : List PS} (h : W3 (r.S x l s) fun f l s => match f with
    | .next => W3 (exB r xs l s) Q
    | .ret v => Q (.ret v) l s) : W3 (exB r (x :: xs) l s) Q := by
  obtain ⟨f, l1, s1, h1, q⟩ := h
  cases f with
  | next =>
    obtain ⟨f, l2, s2, h2, q⟩ := q
    exact ⟨f, l2, s2, by simp only [exB, h1, h2], q⟩
  | ret v => exact ⟨.ret v, l1, s1, by simp only [exB, h1], q⟩
theorem S_expr {e : PE} (h : W2 ((ev P n).E e l s) fun _ s => Q .next l s) : W3 ((ev P (n + 1)).S (.expr e) l s) Q := by
  obtain ⟨v, s1, h1, q⟩ := h
  exact ⟨_, _, s1, by rw [ev_S]; simp only [stepS, h1], q⟩
theorem S_ret0 (q : Q (.ret .none) l s) : W3 ((ev P (n + 1)).S (.ret none) l s) Q := ⟨_, _, s, rfl, q⟩
theorem S_ret {e : PE} (h : W2 ((ev P n).E e l s) fun v s => Q (.ret v) l s) : W3 ((ev P (n + 1)).S (.ret (some e)) l s) Q := by
  obtain ⟨v, s1, h1, q⟩ := h
  exact ⟨_, _, s1, by rw [ev_S]; simp only [stepS, h1], q⟩
theorem S_asg {t : Tg} {e : PE} (h : W2 ((ev P n).E e l s) fun v s => W2 (assign P (ev P n) t v l s) fun l s => Q .next l s) : W3 ((ev P (n + 1)).S (.asg t e) l s) Q := by
  obtain ⟨v, s1, h1, l2, s2, h2, q⟩ := h
  exact ⟨_, _, s2, by rw [ev_S]; simp only [stepS, h1, h2, Option.map_some], q⟩
theorem S_aug {x : Nat} {e : PE} {i : Int} (hx : lget x l = some (.int i)) (h : W2 ((ev P n).E e l s) fun v s => ∃ j, v = .int j ∧ Q .next (upd x (.int (i + j)) l) s) : W3 ((ev P (n + 1)).S (.aug x .add e) l s) Q := by
  obtain ⟨v, s1, h1, j, rfl, q⟩ := h
  exact ⟨_, _, s1, by rw [ev_S]; simp only [stepS, hx, h1], q⟩
theorem S_ite {c : PE} {a b : List PS} (h : W2 ((ev P n).B c l s) fun t s => (t = true → W3 (exB (ev P n) a l s) Q) ∧ (t = false → W3 (exB (ev P n) b l s) Q)) : W3 ((ev P (n + 1)).S (.ite c a b) l s) Q := by
  obtain ⟨t, s1, h1, q1, q2⟩ := h
  cases t with
  | true =>
    obtain ⟨f, l2, s2, h2, q⟩ := q1 rfl
    exact ⟨f, l2, s2, by rw [ev_S]; simp only [stepS, h1, h2], q⟩
  | false =>
    obtain ⟨f, l2, s2, h2, q⟩ := q2 rfl
    exact ⟨f, l2, s2, by rw [ev_S]; simp only [stepS, h1, h2], q⟩
theorem S_while {c : PE} {b : List PS} (h : W2 ((ev P n).B c l s) fun t s => (t = false → Q .next l s) ∧ (t = true → W3 (exB (ev P n) b l s) fun f l s => match f with
    | .next => W3 ((ev P n).S (.while c b) l s) Q
    | .ret v => Q (.ret v) l s)) : W3 ((ev P (n + 1)).S (.while c b) l s) Q := by
  obtain ⟨t, s1, h1, q1, q2⟩ := h
  cases t with
  | false => exact ⟨_, l, s1, by rw [ev_S]; simp only [stepS, h1], q1 rfl⟩
  | true =>
    obtain ⟨f, l2, s2, h2, q⟩ := q2 rfl
    cases f with
    | next =>
      obtain ⟨f, l3, s3, h3, q⟩ := q
      exact ⟨f, l3, s3, by rw [ev_S]; simp only [stepS, h1, h2, h3], q⟩
    | ret v => exact ⟨.ret v, l2, s2, by rw [ev_S]; simp only [stepS, h1, h2], q⟩
theorem S_for {t : Tg} {src : Src} {b : List PS} (h : W2 (srcS (ev P n) src l s) fun it s => match it with
    | .items xs => W3 (forL P (ev P n) t b xs l s) Q
    | .place k m => W3 (forM P (ev P n) t b k m 0 l s) Q) : W3 ((ev P (n + 1)).S (.for t src b) l s) Q := by
  obtain ⟨it, s1, h1, q⟩ := h
  cases it with
  | items xs =>
    obtain ⟨f, l2, s2, h2, q⟩ := q
    exact ⟨f, l2, s2, by rw [ev_S]; simp only [stepS, h1, h2], q⟩
  | place k m =>
    obtain ⟨f, l2, s2, h2, q⟩ := q
    exact ⟨f, l2, s2, by rw [ev_S]; simp only [stepS, h1, h2], q⟩
end

/-! targets -/
section
variable {r : Rec} {Q : Loc → St → Prop}
theorem A_var {x : Nat} {v : V} (q : Q (upd x v l) s) : W2 (assign P r (.var x) v l s) Q := ⟨_, s, by simp only [assign], q⟩
theorem A_attr {e : PE} {a : Nat} {v : V} (h : W2 (r.E e l s) fun o s => W1 (setA P s a v o) fun s => Q l s) : W2 (assign P r (.attr e a) v l s) Q := by
  obtain ⟨o, s1, h1, s2, h2, q⟩ := h
  exact ⟨l, s2, by simp only [assign, h1, h2, Option.map_some], q⟩
theorem A_idx {e i : PE} {v : V} (h : W2 (r.E e l s) fun o s => W2 (r.E i l s) fun k s => W1 (setI s o k v) fun s => Q l s) : W2 (assign P r (.idx e i) v l s) Q := by
  obtain ⟨o, s1, h1, k, s2, h2, s3, h3, q⟩ := h
  exact ⟨l, s3, by simp only [assign, h1, h2, h3, Option.map_some], q⟩
theorem A_tup2 {a b : Tg} {v w : V} (h : W2 (assign P r a v l s) fun l s => W2 (assign P r b w l s) Q) : W2 (assign P r (.tup [a, b]) (.tup [v, w]) l s) Q := by
  obtain ⟨l1, s1, h1, l2, s2, h2, q⟩ := h
  exact ⟨l2, s2, by simp only [assign, assigns, h1, h2]; rfl, q⟩
theorem A_tup3 {a b c : Tg} {v w x : V} (h : W2 (assign P r a v l s) fun l s => W2 (assign P r b w l s) fun l s => W2 (assign P r c x l s) Q) : W2 (assign P r (.tup [a, b, c]) (.tup [v, w, x]) l s) Q := by
  obtain ⟨l1, s1, h1, l2, s2, h2, l3, s3, h3, q⟩ := h
  exact ⟨l3, s3, by simp only [assign, assigns, h1, h2, h3]; rfl, q⟩
end

/-! calls -/
theorem C_fn {r : Rec} {f : Nat} {fn : Fn} {vs : List V} {l : Loc} (hf : P.fn f = some fn) (hb : bindP fn.params fn.defs vs = some l) (h : W3 (exB r fn.body l s) fun f _ s => match f with
    | .next => Q .none s
    | .ret v => Q v s) : W2 (callF P r f vs s) Q := by
  obtain ⟨f, l2, s2, h2, q⟩ := h
  cases f with
  | next => exact ⟨.none, s2, by simp only [callF, hf, hb, h2], q⟩
  | ret v => exact ⟨v, s2, by simp only [callF, hf, hb, h2], q⟩
theorem N_new {r : Rec} {c f : Nat} {vs : List V} (hc : c < 4) (hf : P.init c = some f) (h : W2 (callF P r f (.obj c (s.objs c).length :: vs) (s.setObjs c (s.objs c ++ [[]]))) fun v s' => v = .none ∧ Q (.obj c (s.objs c).length) s') : W2 (newF P r c vs s) Q := by
  obtain ⟨v, s2, h2, rfl, q⟩ := h
  exact ⟨_, s2, by simp only [newF, hf, h2]; rw [if_pos hc], q⟩

/-! loops over lists -/
theorem forL_ok {r : Rec} {t : Tg} {b : List PS} {Q : Fl → Loc → St → Prop} (Inv : Nat → Loc → St → Prop) : ∀ (xs : List V) (j : Nat) {l : Loc} {s : St}, Inv j l s →
    (∀ (i : Nat) v l s, xs[i]? = some v → Inv (j + i) l s → W2 (assign P r t v l s) fun l s => W3 (exB r b l s) fun f l s => match f with
      | .next => Inv (j + i + 1) l s
      | .ret w => Q (.ret w) l s) →
    (∀ l s, Inv (j + xs.length) l s → Q .next l s) → W3 (forL P r t b xs l s) Q
  | [], j, l, s, h0, _, hE => ⟨.next, l, s, by simp only [forL], hE l s (by simpa using h0)⟩
  | x :: xs, j, l, s, h0, hS, hE => by
    obtain ⟨l1, s1, h1, f, l2, s2, h2, q⟩ := hS 0 x l s rfl (by simpa using h0)
    cases f with
    | ret w => exact ⟨.ret w, l2, s2, by simp only [forL, h1, h2], q⟩
    | next =>
      obtain ⟨f, l3, s3, h3, q⟩ := forL_ok Inv xs (j + 1) (Q := Q) (l := l2) (s := s2) (by simpa using q) (fun i v l s hi hI => by
        have := hS (i + 1) v l s (by simpa using hi) (by rw [show j + (i + 1) = j + 1 + i by omega]; exact hI)
        rw [show j + 1 + i + 1 = j + (i + 1) + 1 by omega]
        exact this) (fun l s h => hE l s (by rw [List.length_cons, show j + (xs.length + 1) = j + 1 + xs.length by omega]; exact h))
      exact ⟨f, l3, s3, by simp only [forL, h1, h2, h3], q⟩
theorem compL_ok {r : Rec} {elt : PE} {t : Tg} {c : Option PE} {l : Loc} {Q : List V → St → Prop} (Inv : Nat → List V → St → Prop) : ∀ (xs : List V) (j : Nat) (acc : List V) {s : St}, Inv j acc s →
    (∀ (i : Nat) v acc s, xs[i]? = some v → Inv (j + i) acc s → W2 (assign P r t v l s) fun l s => W2 (match c with | none => some (true, s) | some c => r.B c l s) fun ok s =>
      (ok = false → Inv (j + i + 1) acc s) ∧ (ok = true → W2 (r.E elt l s) fun y s => Inv (j + i + 1) (acc ++ [y]) s)) →
    (∀ ys s, Inv (j + xs.length) (acc ++ ys) s → Q ys s) → W2 (compL P r elt t c l xs s) Q
  | [], j, acc, s, h0, _, hE => ⟨[], s, by simp only [compL], hE [] s (by simpa using h0)⟩
  | x :: xs, j, acc, s, h0, hS, hE => by
    obtain ⟨l1, s1, h1, ok, s2, h2, q1, q2⟩ := hS 0 x acc s rfl (by simpa using h0)
    have next : ∀ (y : Option V) (s3 : St), Inv (j + 1) (acc ++ y.toList) s3 → compBody P r elt t c l x s = some (y, s3) → W2 (compL P r elt t c l (x :: xs) s) Q := fun y s3 hI hb => by
      obtain ⟨ys, s4, h4, q⟩ := compL_ok Inv xs (j + 1) (acc ++ y.toList) (Q := fun ys s => Q (y.toList ++ ys) s) hI (fun i v acc s hi hI => by
        have := hS (i + 1) v acc s (by simpa using hi) (by rw [show j + (i + 1) = j + 1 + i by omega]; exact hI)
        rw [show j + 1 + i + 1 = j + (i + 1) + 1 by omega]
        exact this) (fun ys s h => hE _ s (by rw [List.length_cons, show j + (xs.length + 1) = j + 1 + xs.length by omega, ← List.append_assoc]; exact h))
      exact ⟨y.toList ++ ys, s4, by simp only [compL, hb, h4], q⟩
    cases ok with
    | false => exact next none s2 (by simpa using q1 rfl) (by simp only [compBody, h1]; cases c <;> simp_all)
    | true =>
      obtain ⟨y, s3, h3, q⟩ := q2 rfl
      refine next (some y) s3 (by simpa using q) ?_
      simp only [compBody, h1]
      cases c with
      | none => dsimp only at h2 ⊢; cases h2; rw [h3]
      | some c => dsimp only at h2 ⊢; rw [h2]; dsimp only; rw [h3]
end
end Mux
namespace Mux

/-! tables: strictly ascending lists -/
abbrev Tab := List (Int × Nat)
def Srt (t : Tab) : Prop := t.Pairwise fun a b => a.1 < b.1
def tget (t : Tab) (k : Int) : Option Nat := (t.find? fun p => p.1 = k).map (·.2)
def tset (k : Int) (n : Nat) : Tab → Tab
  | [] => [(k, n)]
  | (a, m) :: r => if k < a then (k, n) :: (a, m) :: r else if k = a then (k, n) :: r else (a, m) :: tset k n r
def tdel (t : Tab) (k : Int) : Tab := t.filter fun p => decide (p.1 ≠ k)
def Rep (enc : Nat → V) (es : List (Int × V)) (t : Tab) : Prop := es.Perm (t.map fun p => (p.1, enc p.2))

theorem srt_nodup {t : Tab} (h : Srt t) : (t.map (·.1)).Nodup := by
  rw [List.nodup_iff_pairwise_ne, List.pairwise_map]
  exact h.imp fun h => Int.ne_of_lt h
theorem srt_nodup' {t : Tab} (h : Srt t) : t.Nodup := by
  rw [List.nodup_iff_pairwise_ne]
  exact List.Pairwise.imp (fun h e => by subst e; exact absurd h (Int.lt_irrefl _)) h
theorem dget_iff {es : List (Int × V)} (hn : (es.map (·.1)).Nodup) {k : Int} {v : V} : dget es k = some v ↔ (k, v) ∈ es := by
  unfold dget
  induction es with
  | nil => simp
  | cons p r ih =>
    obtain ⟨a, w⟩ := p
    simp only [List.map_cons, List.nodup_cons] at hn
    rw [List.find?_cons]
    by_cases h : a = k
    · subst h
      simp only [decide_true, Option.map_some, Option.some.injEq, List.mem_cons, Prod.mk.injEq, true_and]
      constructor
      · rintro rfl; exact .inl rfl
      · rintro (rfl | hm)
        · rfl
        · exact absurd (List.mem_map.mpr ⟨(a, v), hm, rfl⟩) hn.1
    · simp only [show decide (a = k) = false from decide_eq_false h]
      rw [ih hn.2]
      simp only [List.mem_cons, Prod.mk.injEq]
      constructor
      · exact .inr
      · rintro (⟨rfl, _⟩ | hm)
        · exact absurd rfl h
        · exact hm
theorem tget_iff {t : Tab} (hs : Srt t) {k : Int} {n : Nat} : tget t k = some n ↔ (k, n) ∈ t := by
  unfold tget
  induction t with
  | nil => simp
  | cons p r ih =>
    obtain ⟨a, w⟩ := p
    have h' := List.pairwise_cons.mp hs
    rw [List.find?_cons]
    by_cases h : a = k
    · subst h
      simp only [decide_true, Option.map_some, Option.some.injEq, List.mem_cons, Prod.mk.injEq, true_and]
      constructor
      · rintro rfl; exact .inl rfl
      · rintro (rfl | hm)
        · rfl
        · exact absurd (h'.1 _ hm) (Int.lt_irrefl _)
    · simp only [show decide (a = k) = false from decide_eq_false h]
      rw [ih h'.2]
      simp only [List.mem_cons, Prod.mk.injEq]
      constructor
      · exact .inr
      · rintro (⟨rfl, _⟩ | hm)
        · exact absurd rfl h
        · exact hm
theorem tget_none {t : Tab} (hs : Srt t) {k : Int} : tget t k = none ↔ k ∉ t.map (·.1) := by
  constructor
  · intro h hm
    obtain ⟨p, hp, rfl⟩ := List.mem_map.mp hm
    rw [(tget_iff hs).mpr (show (p.1, p.2) ∈ t from hp)] at h; cases h
  · intro h
    cases e : tget t k with
    | none => rfl
    | some n => exact absurd (List.mem_map.mpr ⟨(k, n), (tget_iff hs).mp e, rfl⟩) h
theorem tget_isSome {t : Tab} (hs : Srt t) {k : Int} : (tget t k).isSome = true ↔ k ∈ t.map (·.1) := by
  cases e : tget t k with
  | none => simp [(tget_none hs).mp e]
  | some n => simp only [Option.isSome_some, true_iff]; exact List.mem_map.mpr ⟨(k, n), (tget_iff hs).mp e, rfl⟩

section
variable {enc : Nat → V} {es : List (Int × V)} {t : Tab} {k : Int} {n : Nat}
theorem Rep.keys (h : Rep enc es t) : (es.map (·.1)).Perm (t.map (·.1)) := by
  have := List.Perm.map (·.1) h
  simpa [List.map_map, Function.comp_def] using this
theorem Rep.nodup (h : Rep enc es t) (hs : Srt t) : (es.map (·.1)).Nodup := h.keys.nodup_iff.mpr (srt_nodup hs)
theorem Rep.get (h : Rep enc es t) (hs : Srt t) : dget es k = (tget t k).map enc := by
  cases e : tget t k with
  | some n =>
    rw [Option.map_some, dget_iff (h.nodup hs)]
    exact h.mem_iff.mpr (List.mem_map.mpr ⟨(k, n), (tget_iff hs).mp e, rfl⟩)
  | none =>
    cases d : dget es k with
    | none => rfl
    | some v =>
      have := h.mem_iff.mp ((dget_iff (h.nodup hs)).mp d)
      obtain ⟨p, hp, e2⟩ := List.mem_map.mp this
      cases e2
      rw [(tget_iff hs).mpr (show (p.1, p.2) ∈ t from hp)] at e; cases e
theorem sort_unique {a b : List Int} (hp : a.Perm b) (ha : a.Pairwise (· ≤ ·)) (hb : b.Pairwise (· ≤ ·)) : a = b :=
  hp.eq_of_pairwise (fun a b _ _ h1 h2 => Int.le_antisymm h1 h2) ha hb
theorem Rep.sort (h : Rep enc es t) (hs : Srt t) : sortI (es.map (·.1)) = t.map (·.1) :=
  sort_unique ((sortI_perm _).trans h.keys) (sortI_asc _) (by rw [List.pairwise_map]; exact hs.imp fun h => Int.le_of_lt h)
theorem Rep.len (h : Rep enc es t) : es.length = t.length := by have := List.Perm.length_eq h; simpa using this
theorem Rep.nil : Rep enc [] [] := List.Perm.refl _

theorem mem_tset {p : Int × Nat} : ∀ {t : Tab}, p ∈ tset k n t → p = (k, n) ∨ p ∈ t
  | [], h => by simp [tset] at h; exact .inl h
  | (a, m) :: r, h => by
    unfold tset at h
    split at h
    · rcases List.mem_cons.mp h with h | h
      · exact .inl h
      · exact .inr h
    · split at h
      · rcases List.mem_cons.mp h with h | h
        · exact .inl h
        · exact .inr (.tail _ h)
      · rcases List.mem_cons.mp h with h | h
        · exact .inr (h ▸ .head _)
        · rcases mem_tset h with h | h
          · exact .inl h
          · exact .inr (.tail _ h)
theorem tset_srt : ∀ {t : Tab}, Srt t → Srt (tset k n t)
  | [], _ => by simp [tset, Srt]
  | (a, m) :: r, h => by
    have h' := List.pairwise_cons.mp h
    unfold tset
    split
    · rename_i q
      refine List.pairwise_cons.mpr ⟨fun p hp => ?_, h⟩
      rcases List.mem_cons.mp hp with rfl | hp
      · exact q
      · exact Int.lt_trans q (h'.1 _ hp)
    · split
      · rename_i q
        subst q
        exact List.pairwise_cons.mpr ⟨fun p hp => h'.1 p hp, h'.2⟩
      · rename_i q1 q2
        refine List.pairwise_cons.mpr ⟨fun p hp => ?_, tset_srt h'.2⟩
        rcases mem_tset hp with rfl | hp
        · show a < k; omega
        · exact h'.1 _ hp
theorem tdel_srt (h : Srt t) : Srt (tdel t k) := List.Pairwise.filter _ h
theorem tset_perm_new : ∀ {t : Tab}, k ∉ t.map (·.1) → (tset k n t).Perm ((k, n) :: t)
  | [], _ => .refl _
  | (a, m) :: r, h => by
    simp only [List.map_cons, List.mem_cons, not_or] at h
    unfold tset
    split
    · exact .refl _
    · rw [if_neg h.1]
      exact ((tset_perm_new h.2).cons _).trans (.swap ..)
theorem tset_perm_old : ∀ {t : Tab}, Srt t → k ∈ t.map (·.1) → tset k n t = t.map fun p => if p.1 = k then (p.1, n) else p
  | [], _, h => by simp at h
  | (a, m) :: r, hs, h => by
    have h' := List.pairwise_cons.mp hs
    unfold tset
    by_cases q : a = k
    · subst q
      rw [if_neg (Int.lt_irrefl _), if_pos rfl, List.map_cons, if_pos rfl]
      congr 1
      conv => lhs; rw [← List.map_id r]
      refine List.map_congr_left fun p hp => ?_
      have := h'.1 p hp
      rw [if_neg (by simp only at this; omega)]; rfl
    · have hm : k ∈ r.map (·.1) := by
        rcases List.mem_cons.mp h with e | h
        · exact absurd e.symm q
        · exact h
      obtain ⟨p, hp, hk⟩ := List.mem_map.mp hm
      have := h'.1 p hp
      simp only at this
      rw [if_neg (by omega), if_neg (fun e => q e.symm), List.map_cons, if_neg q, tset_perm_old h'.2 hm]
theorem Rep.set (h : Rep enc es t) (hs : Srt t) : Rep enc (dset es k (enc n)) (tset k n t) := by
  unfold dset
  by_cases q : k ∈ t.map (·.1)
  · have hk : k ∈ es.map (·.1) := h.keys.mem_iff.mpr q
    rw [if_pos (by
      obtain ⟨p, hp, e⟩ := List.mem_map.mp hk
      exact List.any_eq_true.mpr ⟨p, hp, decide_eq_true e⟩), tset_perm_old hs q]
    have := List.Perm.map (fun p : Int × V => if p.1 = k then (p.1, enc n) else p) h
    unfold Rep
    rw [List.map_map] at this ⊢
    refine this.trans (List.Perm.of_eq (List.map_congr_left fun p _ => ?_))
    show (if p.1 = k then _ else _) = _
    by_cases e : p.1 = k
    · simp [e]
    · simp [e]
  · have hk : k ∉ es.map (·.1) := fun x => q (h.keys.mem_iff.mp x)
    rw [if_neg (by
      intro x
      obtain ⟨p, hp, e⟩ := List.any_eq_true.mp x
      exact hk (List.mem_map.mpr ⟨p, hp, of_decide_eq_true e⟩))]
    have h2 := List.Perm.map (fun p : Int × Nat => (p.1, enc p.2)) (tset_perm_new (n := n) q)
    refine List.Perm.trans ?_ h2.symm
    rw [List.map_cons]
    exact (List.perm_append_singleton _ _).trans (List.Perm.cons _ h)
theorem Rep.del (h : Rep enc es t) : Rep enc (ddel es k) (tdel t k) := by
  unfold ddel tdel
  have := List.Perm.filter (fun p : Int × V => decide (p.1 ≠ k)) h
  unfold Rep
  rw [List.filter_map] at this
  exact this
end

theorem tget_tset {t : Tab} (hs : Srt t) {k j : Int} {n : Nat} : tget (tset k n t) j = if j = k then some n else tget t j := by
  by_cases q : j = k
  · subst q
    rw [if_pos rfl, tget_iff (tset_srt hs)]
    by_cases hm : j ∈ t.map (·.1)
    · rw [tset_perm_old hs hm]
      obtain ⟨p, hp, rfl⟩ := List.mem_map.mp hm
      exact List.mem_map.mpr ⟨p, hp, by simp⟩
    · exact (tset_perm_new hm).mem_iff.mpr (.head _)
  · rw [if_neg q]
    have key : ∀ m, tget (tset k n t) j = some m ↔ tget t j = some m := fun m => by
      rw [tget_iff (tset_srt hs), tget_iff hs]
      by_cases hm : k ∈ t.map (·.1)
      · rw [tset_perm_old hs hm, List.mem_map]
        constructor
        · rintro ⟨p, hp, e⟩
          split at e
          · rename_i q'; cases e; exact absurd q' q
          · cases e; exact hp
        · intro hp
          exact ⟨_, hp, by simp [q]⟩
      · rw [(tset_perm_new hm).mem_iff, List.mem_cons]
        simp [q]
    cases e : tget t j with
    | some m => exact (key m).mpr e
    | none =>
      cases e2 : tget (tset k n t) j with
      | none => rfl
      | some m => rw [(key m).mp e2] at e; cases e
theorem tget_tdel {t : Tab} (hs : Srt t) {k j : Int} : tget (tdel t k) j = if j = k then none else tget t j := by
  have key : ∀ m, tget (tdel t k) j = some m ↔ (j ≠ k ∧ tget t j = some m) := fun m => by
    rw [tget_iff (tdel_srt hs), tget_iff hs]
    unfold tdel
    rw [List.mem_filter]
    simp [and_comm]
  by_cases q : j = k
  · rw [if_pos q]
    cases e : tget (tdel t k) j with
    | none => rfl
    | some m => exact absurd q ((key m).mp e).1
  · rw [if_neg q]
    cases e : tget t j with
    | some m => exact (key m).mpr ⟨q, e⟩
    | none =>
      cases e2 : tget (tdel t k) j with
      | none => rfl
      | some m => rw [((key m).mp e2).2] at e; cases e
theorem srt_ext : ∀ {t t' : Tab}, Srt t → Srt t' → (∀ k, tget t k = tget t' k) → t = t' := by
  intro t t' h h' e
  have hm : ∀ p, p ∈ t ↔ p ∈ t' := fun p => by
    rw [← tget_iff h (k := p.1) (n := p.2), ← tget_iff h' (k := p.1) (n := p.2), e]
  have hp : t.Perm t' := by
    rw [List.perm_ext_iff_of_nodup]
    · exact hm
    · exact srt_nodup' h
    · exact srt_nodup' h'
  exact hp.eq_of_pairwise (fun a b _ _ h1 h2 => absurd (Int.lt_trans h1 h2) (Int.lt_irrefl _)) h h'
end Mux
namespace Mux

structure WS where
  tab : Nat → Tab
  cur : Nat → Option Int
  last : Nat → Option Int
  fl : Nat → Bool
def upf {α : Type} (f : Nat → α) (i : Nat) (v : α) : Nat → α := fun j => if j = i then v else f j
theorem upf_same {α : Type} (f : Nat → α) (i : Nat) (v : α) : upf f i v i = v := if_pos rfl
theorem upf_ne {α : Type} (f : Nat → α) {i j : Nat} (v : α) (h : j ≠ i) : upf f i v j = f j := if_neg h
def WS.st (w : WS) (k : Nat) (t : Tab) : WS := { w with tab := upf w.tab k t }
def WS.sc (w : WS) (i : Nat) (c : Option Int) : WS := { w with cur := upf w.cur i c }
def WS.sl (w : WS) (i : Nat) (c : Option Int) : WS := { w with last := upf w.last i c }
def WS.sf (w : WS) (m : Nat) (b : Bool) : WS := { w with fl := upf w.fl m b }
def WS.see (w : WS) (m : Nat) : WS := w.sf m false
/-- the table of a session -/
def tb (i : Nat) : Nat := if i = 2 then 1 else 0
theorem tb_lt (i : Nat) : tb i < 2 := by unfold tb; split <;> decide
def oV : Option Int → V
  | none => .none
  | some i => .int i
def inT (t : Tab) : Option Int → Bool
  | some c => (tget t c).isSome
  | none => false
def encI (n : Nat) : V := .int n
def encO (n : Nat) : V := .obj 2 n

def rowF (i : Nat) (w : WS) : List (Nat × V) := [(62, .int (tb i)), (25, oV (w.cur i)), (18, oV (w.last i))]
def nameB : Nat → List UInt8
  | 0 => [97] | 1 => [98] | _ => [99]
def grp (i : Nat) : V := if i = 2 then .none else .bytes [103]
def sessF (i : Nat) (w : WS) : Fields := [(7, .int i), (15, .bytes (nameB i)), (23, .dict (2 + tb i)), (24, grp i), (14, .none), (18, oV (w.last i)), (25, oV (w.cur i))]
def winF (k : Nat) (b c : Bool) : Fields := [(7, .int k), (15, .bytes [119]), (16, .list [.obj 1 k]), (17, .obj 1 k), (18, .none), (19, .obj 0 k), (20, .bool false), (21, .bool b), (22, .bool c), (14, .none)]
def worldF (full : Bool) : List (Nat × V) := [(23, .ml 1), (65, .ml 2), (64, .list [.dict 0, .dict 1]), (76, .list [.dict 2, .dict 3]), (9, .ml 3)] ++ (if full then [(49, .list [.obj 3 0, .obj 3 1, .obj 3 2])] else [])

structure TabOk (n : Nat) (t : Tab) : Prop where
  srt : Srt t
  len : t.length ≤ 50
  num : ∀ p ∈ t, p.2 < n
def DictAt (st : St) (d : Nat) (enc : Nat → V) (t : Tab) : Prop := ∃ es, st.dicts[d]? = some es ∧ Rep enc es t

structure Inv (full : Bool) (st : St) (h n : Nat) (R L : WS) : Prop where
  hb : h < 10000
  nb : n ≤ 50
  m0 : st.mls[0]? = some [.int h]
  m1 : st.mls[1]? = some ((List.range n).map fun k => .obj 2 k)
  m2 : st.mls[2]? = some ((List.range n).map fun k => .bool (L.fl k))
  m3 : st.mls[3]? = some (if full then [.sd 1, .sd 2, .sd 3] else [])
  s0 : st.sds[0]? = some (worldF full)
  sr : full = true → ∀ i < 3, st.sds[1 + i]? = some (rowF i L)
  dL : ∀ k < 2, DictAt st k encI (L.tab k)
  dR : ∀ k < 2, DictAt st (2 + k) encO (R.tab k)
  tL : ∀ k < 2, TabOk n (L.tab k)
  tR : ∀ k < 2, TabOk n (R.tab k)
  ss : full = true → ∀ i < 3, st.sess[i]? = some (sessF i R)
  ww : ∀ k < n, ∃ b c, st.wins[k]? = some (winF k b c) ∧ (b || c) = R.fl k
  wl : st.wins.length = n
  pl : st.panes.length = n
  cl : st.cells.length = n
  z : full = false → st.sds.length = 1 ∧ st.sess = []

section
variable {full : Bool} {st : St} {h n : Nat} {R L : WS}

/-! things laid at the end change nothing -/
theorem DictAt.more {d : Nat} {enc : Nat → V} {t : Tab} {es : List (Int × V)} (x : DictAt st d enc t) : DictAt { st with dicts := st.dicts ++ [es] } d enc t := by
  obtain ⟨es, h1, h2⟩ := x
  exact ⟨es, (get_app (List.getElem?_eq_some_iff.mp h1).1).trans h1, h2⟩
theorem get_lt {α : Type} {l : List α} {i : Nat} {x : α} (h : l[i]? = some x) : i < l.length := (List.getElem?_eq_some_iff.mp h).1
theorem Inv.newDict (I : Inv full st h n R L) (es : List (Int × V)) : Inv full { st with dicts := st.dicts ++ [es] } h n R L :=
  ⟨I.hb, I.nb, I.m0, I.m1, I.m2, I.m3, I.s0, I.sr, fun k hk => (I.dL k hk).more, fun k hk => (I.dR k hk).more, I.tL, I.tR, I.ss, I.ww, I.wl, I.pl, I.cl, I.z⟩
theorem Inv.newMl (I : Inv full st h n R L) (vs : List V) : Inv full { st with mls := st.mls ++ [vs] } h n R L :=
  ⟨I.hb, I.nb, (get_app (get_lt I.m0)).trans I.m0, (get_app (get_lt I.m1)).trans I.m1, (get_app (get_lt I.m2)).trans I.m2, (get_app (get_lt I.m3)).trans I.m3, I.s0, I.sr, I.dL, I.dR, I.tL, I.tR, I.ss, I.ww, I.wl, I.pl, I.cl, I.z⟩
theorem Inv.dlen (I : Inv full st h n R L) : 4 ≤ st.dicts.length := by
  obtain ⟨es, h1, _⟩ := I.dR 1 (by decide)
  exact get_lt h1
theorem Inv.mlen (I : Inv full st h n R L) : 4 ≤ st.mls.length := get_lt I.m3
/-- a dict of one's own is changed -/
theorem Inv.ownDict (I : Inv full st h n R L) {d : Nat} (hd : 4 ≤ d) (es : List (Int × V)) : Inv full { st with dicts := st.dicts.set d es } h n R L := by
  have key : ∀ {k : Nat} {enc : Nat → V} {t : Tab}, k < 4 → DictAt st k enc t → DictAt { st with dicts := st.dicts.set d es } k enc t := fun {k enc t} hk x => by
    obtain ⟨es', h1, h2⟩ := x
    exact ⟨es', by rw [← h1]; exact List.getElem?_set_ne (by omega), h2⟩
  exact ⟨I.hb, I.nb, I.m0, I.m1, I.m2, I.m3, I.s0, I.sr, fun k hk => key (by omega) (I.dL k hk), fun k hk => key (by omega) (I.dR k hk), I.tL, I.tR, I.ss, I.ww, I.wl, I.pl, I.cl, I.z⟩
theorem Inv.ownMl (I : Inv full st h n R L) {d : Nat} (hd : 4 ≤ d) (vs : List V) : Inv full { st with mls := st.mls.set d vs } h n R L := by
  have key : ∀ {k : Nat} {x : List V}, k < 4 → st.mls[k]? = some x → (st.mls.set d vs)[k]? = some x := fun {k x} hk e => by rw [← e]; exact List.getElem?_set_ne (by omega)
  exact ⟨I.hb, I.nb, key (by decide) I.m0, key (by decide) I.m1, key (by decide) I.m2, key (by decide) I.m3, I.s0, I.sr, I.dL, I.dR, I.tL, I.tR, I.ss, I.ww, I.wl, I.pl, I.cl, I.z⟩

/-! the tables are changed -/
theorem upf_of {α : Type} {p : Nat → α → Prop} {f : Nat → α} {k : Nat} {v : α} (hf : ∀ j < 2, j ≠ k → p j (f j)) (hv : p k v) : ∀ j < 2, p j (upf f k v j) := fun j hj => by
  by_cases q : j = k
  · subst q; rw [upf_same]; exact hv
  · rw [upf_ne _ _ q]; exact hf j hj q
theorem Inv.updR (I : Inv full st h n R L) {k : Nat} (hk : k < 2) {es : List (Int × V)} {t : Tab} (hr : Rep encO es t) (ht : TabOk n t) : Inv full { st with dicts := st.dicts.set (2 + k) es } h n (R.st k t) L := by
  have hl := I.dlen
  refine ⟨I.hb, I.nb, I.m0, I.m1, I.m2, I.m3, I.s0, I.sr, fun j hj => ?_, ?_, I.tL, ?_, I.ss, I.ww, I.wl, I.pl, I.cl, I.z⟩
  · obtain ⟨es', h1, h2⟩ := I.dL j hj
    exact ⟨es', by rw [← h1]; exact List.getElem?_set_ne (by omega), h2⟩
  · refine upf_of (p := fun j t => DictAt { st with dicts := st.dicts.set (2 + k) es } (2 + j) encO t) (fun j hj hne => ?_) ⟨es, by show (st.dicts.set (2 + k) es)[2 + k]? = _; exact List.getElem?_set_self (by omega), hr⟩
    obtain ⟨es', h1, h2⟩ := I.dR j hj
    exact ⟨es', by rw [← h1]; exact List.getElem?_set_ne (by omega), h2⟩
  · exact upf_of (p := fun j t => TabOk n t) (fun j hj _ => I.tR j hj) ht
theorem Inv.updL (I : Inv full st h n R L) {k : Nat} (hk : k < 2) {es : List (Int × V)} {t : Tab} (hr : Rep encI es t) (ht : TabOk n t) : Inv full { st with dicts := st.dicts.set k es } h n R (L.st k t) := by
  have hl := I.dlen
  refine ⟨I.hb, I.nb, I.m0, I.m1, I.m2, I.m3, I.s0, I.sr, ?_, fun j hj => ?_, ?_, I.tR, I.ss, I.ww, I.wl, I.pl, I.cl, I.z⟩
  · refine upf_of (p := fun j t => DictAt { st with dicts := st.dicts.set k es } j encI t) (fun j hj hne => ?_) ⟨es, by show (st.dicts.set k es)[k]? = _; exact List.getElem?_set_self (by omega), hr⟩
    obtain ⟨es', h1, h2⟩ := I.dL j hj
    exact ⟨es', by rw [← h1]; exact List.getElem?_set_ne (by omega), h2⟩
  · obtain ⟨es', h1, h2⟩ := I.dR j hj
    exact ⟨es', by rw [← h1]; exact List.getElem?_set_ne (by omega), h2⟩
  · exact upf_of (p := fun j t => TabOk n t) (fun j hj _ => I.tL j hj) ht

/-! sessions -/
theorem getA_sess (I : Inv true st h n R L) {i : Nat} (hi : i < 3) {a : Nat} (ha : P.attr 3 a = true) : getA P st a (.obj 3 i) = lget a (sessF i R) := by
  unfold getA; dsimp only
  rw [if_pos ha]
  show ((st.sess[i]?).bind _) = _
  rw [I.ss rfl i hi]; rfl
theorem sess_tab (I : Inv true st h n R L) {i : Nat} (hi : i < 3) : getA P st 23 (.obj 3 i) = some (.dict (2 + tb i)) := getA_sess I hi rfl
theorem sess_cur (I : Inv true st h n R L) {i : Nat} (hi : i < 3) : getA P st 25 (.obj 3 i) = some (oV (R.cur i)) := getA_sess I hi rfl
theorem sess_last (I : Inv true st h n R L) {i : Nat} (hi : i < 3) : getA P st 18 (.obj 3 i) = some (oV (R.last i)) := getA_sess I hi rfl
theorem sess_grp (I : Inv true st h n R L) {i : Nat} (hi : i < 3) : getA P st 24 (.obj 3 i) = some (grp i) := getA_sess I hi rfl
theorem Inv.updS (I : Inv true st h n R L) {i : Nat} {R' : WS} (hi : i < 3) (ht : R'.tab = R.tab) (hf : R'.fl = R.fl) (hc : ∀ j, j ≠ i → R'.cur j = R.cur j ∧ R'.last j = R.last j) : Inv true { st with sess := st.sess.set i (sessF i R') } h n R' L := by
  have hl := get_lt (I.ss rfl i hi)
  refine ⟨I.hb, I.nb, I.m0, I.m1, I.m2, I.m3, I.s0, I.sr, I.dL, by rw [ht]; exact I.dR, I.tL, by rw [ht]; exact I.tR, fun _ j hj => ?_, by rw [hf]; exact I.ww, I.wl, I.pl, I.cl, nofun⟩
  by_cases q : j = i
  · subst q; exact List.getElem?_set_self hl
  · show (st.sess.set i _)[j]? = _
    rw [List.getElem?_set_ne (fun e => q e.symm), I.ss rfl j hj]
    unfold sessF
    rw [(hc j q).1, (hc j q).2]
theorem sessF_sc {i : Nat} {c : Option Int} : sessF i (R.sc i c) = upd 25 (oV c) (sessF i R) := by
  have e1 : (R.sc i c).cur i = c := upf_same _ _ _
  unfold sessF
  rw [e1]; rfl
theorem sessF_sl {i : Nat} {c : Option Int} : sessF i (R.sl i c) = upd 18 (oV c) (sessF i R) := by
  have e1 : (R.sl i c).last i = c := upf_same _ _ _
  unfold sessF
  rw [e1]; rfl
theorem rowF_sc {i : Nat} {c : Option Int} : rowF i (L.sc i c) = upd 25 (oV c) (rowF i L) := by
  have e1 : (L.sc i c).cur i = c := upf_same _ _ _
  unfold rowF
  rw [e1]; rfl
theorem rowF_sl {i : Nat} {c : Option Int} : rowF i (L.sl i c) = upd 18 (oV c) (rowF i L) := by
  have e1 : (L.sl i c).last i = c := upf_same _ _ _
  unfold rowF
  rw [e1]; rfl
theorem set_cur (I : Inv true st h n R L) {i : Nat} (hi : i < 3) {c : Option Int} {Q : St → Prop} (q : ∀ st', Inv true st' h n (R.sc i c) L → Q st') : W1 (setA P st 25 (oV c) (.obj 3 i)) Q := by
  refine ⟨{ st with sess := st.sess.set i (sessF i (R.sc i c)) }, ?_, q _ (I.updS hi rfl rfl fun j hj => ⟨upf_ne _ _ hj, rfl⟩)⟩
  unfold setA; dsimp only
  rw [if_pos (show P.attr 3 25 = true from rfl)]
  show ((st.sess[i]?).bind _) = _
  rw [I.ss rfl i hi, Option.bind_some, if_pos (by show 7 ≤ 900; decide)]
  rw [sessF_sc]
  rfl
theorem set_last (I : Inv true st h n R L) {i : Nat} (hi : i < 3) {c : Option Int} {Q : St → Prop} (q : ∀ st', Inv true st' h n (R.sl i c) L → Q st') : W1 (setA P st 18 (oV c) (.obj 3 i)) Q := by
  refine ⟨{ st with sess := st.sess.set i (sessF i (R.sl i c)) }, ?_, q _ (I.updS hi rfl rfl fun j hj => ⟨rfl, upf_ne _ _ hj⟩)⟩
  unfold setA; dsimp only
  rw [if_pos (show P.attr 3 18 = true from rfl)]
  show ((st.sess[i]?).bind _) = _
  rw [I.ss rfl i hi, Option.bind_some, if_pos (by show 7 ≤ 900; decide)]
  rw [sessF_sl]
  rfl

/-! rows of the law -/
theorem row_get (I : Inv true st h n R L) {i : Nat} (hi : i < 3) (a : Nat) : getI st (.sd (1 + i)) (.str a) = lget a (rowF i L) := by
  show ((st.sds[1 + i]?).bind _) = _
  rw [I.sr rfl i hi]; rfl
theorem row_tab (I : Inv true st h n R L) {i : Nat} (hi : i < 3) : getI st (.sd (1 + i)) (.str 62) = some (.int (tb i)) := row_get I hi 62
theorem row_cur (I : Inv true st h n R L) {i : Nat} (hi : i < 3) : getI st (.sd (1 + i)) (.str 25) = some (oV (L.cur i)) := row_get I hi 25
theorem row_last (I : Inv true st h n R L) {i : Nat} (hi : i < 3) : getI st (.sd (1 + i)) (.str 18) = some (oV (L.last i)) := row_get I hi 18
theorem Inv.updW (I : Inv true st h n R L) {i : Nat} {L' : WS} (hi : i < 3) (ht : L'.tab = L.tab) (hf : L'.fl = L.fl) (hc : ∀ j, j ≠ i → L'.cur j = L.cur j ∧ L'.last j = L.last j) : Inv true { st with sds := st.sds.set (1 + i) (rowF i L') } h n R L' := by
  have hl := get_lt (I.sr rfl i hi)
  refine ⟨I.hb, I.nb, I.m0, I.m1, by rw [hf]; exact I.m2, I.m3, ?_, fun _ j hj => ?_, by rw [ht]; exact I.dL, I.dR, by rw [ht]; exact I.tL, I.tR, I.ss, I.ww, I.wl, I.pl, I.cl, nofun⟩
  · show (st.sds.set (1 + i) _)[0]? = _
    rw [List.getElem?_set_ne (by omega)]; exact I.s0
  · by_cases q : j = i
    · subst q; exact List.getElem?_set_self hl
    · show (st.sds.set (1 + i) _)[1 + j]? = _
      rw [List.getElem?_set_ne (by omega), I.sr rfl j hj]
      unfold rowF
      rw [(hc j q).1, (hc j q).2]
theorem set_rcur (I : Inv true st h n R L) {i : Nat} (hi : i < 3) {c : Option Int} {Q : St → Prop} (q : ∀ st', Inv true st' h n R (L.sc i c) → Q st') : W1 (setI st (.sd (1 + i)) (.str 25) (oV c)) Q := by
  refine ⟨{ st with sds := st.sds.set (1 + i) (rowF i (L.sc i c)) }, ?_, q _ (I.updW hi rfl rfl fun j hj => ⟨upf_ne _ _ hj, rfl⟩)⟩
  show ((st.sds[1 + i]?).bind _) = _
  rw [I.sr rfl i hi, Option.bind_some, if_pos (by show 3 ≤ 1000; decide)]
  rw [rowF_sc]
theorem set_rlast (I : Inv true st h n R L) {i : Nat} (hi : i < 3) {c : Option Int} {Q : St → Prop} (q : ∀ st', Inv true st' h n R (L.sl i c) → Q st') : W1 (setI st (.sd (1 + i)) (.str 18) (oV c)) Q := by
  refine ⟨{ st with sds := st.sds.set (1 + i) (rowF i (L.sl i c)) }, ?_, q _ (I.updW hi rfl rfl fun j hj => ⟨rfl, upf_ne _ _ hj⟩)⟩
  show ((st.sds[1 + i]?).bind _) = _
  rw [I.sr rfl i hi, Option.bind_some, if_pos (by show 3 ≤ 1000; decide)]
  rw [rowF_sl]

/-! the law's world -/
def sessL : List V := [.obj 3 0, .obj 3 1, .obj 3 2]
def tabsL : List V := [.dict 0, .dict 1]
def realL : List V := [.dict 2, .dict 3]
theorem wd_wins (I : Inv full st h n R L) : getI st (.sd 0) (.str 23) = some (.ml 1) := by show ((st.sds[0]?).bind _) = _; rw [I.s0]; rfl
theorem wd_noted (I : Inv full st h n R L) : getI st (.sd 0) (.str 65) = some (.ml 2) := by show ((st.sds[0]?).bind _) = _; rw [I.s0]; rfl
theorem wd_tabs (I : Inv full st h n R L) : getI st (.sd 0) (.str 64) = some (.list tabsL) := by show ((st.sds[0]?).bind _) = _; rw [I.s0]; rfl
theorem wd_real (I : Inv full st h n R L) : getI st (.sd 0) (.str 76) = some (.list realL) := by show ((st.sds[0]?).bind _) = _; rw [I.s0]; rfl
theorem wd_rows (I : Inv full st h n R L) : getI st (.sd 0) (.str 9) = some (.ml 3) := by show ((st.sds[0]?).bind _) = _; rw [I.s0]; rfl
theorem wd_sess (I : Inv true st h n R L) : getI st (.sd 0) (.str 49) = some (.list sessL) := by show ((st.sds[0]?).bind _) = _; rw [I.s0]; rfl
theorem wd_row (I : Inv true st h n R L) {i : Nat} (hi : i < 3) : getI st (.ml 3) (.int i) = some (.sd (1 + i)) := by
  show ((st.mls[3]?).bind _) = _
  rw [I.m3]
  match i, hi with
  | 0, _ => rfl
  | 1, _ => rfl
  | 2, _ => rfl
theorem ls_sess {i : Nat} (hi : i < 3) : getI st (.list sessL) (.int i) = some (.obj 3 i) := by
  match i, hi with
  | 0, _ => rfl
  | 1, _ => rfl
  | 2, _ => rfl
theorem ls_tabs {k : Nat} (hk : k < 2) : getI st (.list tabsL) (.int k) = some (.dict k) := by
  match k, hk with
  | 0, _ => rfl
  | 1, _ => rfl
theorem ls_real {k : Nat} (hk : k < 2) : getI st (.list realL) (.int k) = some (.dict (2 + k)) := by
  match k, hk with
  | 0, _ => rfl
  | 1, _ => rfl
theorem at_nat {xs : List V} {k : Nat} (hk : k < 1000000) : at? xs (k : Int) = xs[k]? := by
  unfold at?
  rw [if_pos (by omega), if_pos (by omega), Int.toNat_natCast]
theorem wd_win (I : Inv full st h n R L) {m : Nat} (hm : m < n) : getI st (.ml 1) (.int m) = some (.obj 2 m) := by
  show ((st.mls[1]?).bind _) = _
  rw [I.m1, Option.bind_some, at_nat (by have := I.nb; omega), List.getElem?_map, List.getElem?_range hm]; rfl
theorem wd_note (I : Inv full st h n R L) {m : Nat} (hm : m < n) : getI st (.ml 2) (.int m) = some (.bool (L.fl m)) := by
  show ((st.mls[2]?).bind _) = _
  rw [I.m2, Option.bind_some, at_nat (by have := I.nb; omega), List.getElem?_map, List.getElem?_range hm]; rfl
theorem set_noted (I : Inv full st h n R L) {m : Nat} (hm : m < n) {b : Bool} {Q : St → Prop} (q : ∀ st', Inv full st' h n R (L.sf m b) → Q st') : W1 (setI st (.ml 2) (.int m) (.bool b)) Q := by
  have hl := get_lt I.m2
  refine ⟨{ st with mls := st.mls.set 2 ((List.range n).map fun k => .bool ((L.sf m b).fl k)) }, ?_, q _ ?_⟩
  · show ((st.mls[2]?).bind _) = _
    rw [I.m2, Option.bind_some, if_pos (by have := I.nb; simp; omega)]
    congr 2
    congr 1
    rw [Int.toNat_natCast]
    refine List.ext_getElem? fun j => ?_
    by_cases q : j = m
    · subst q
      rw [List.getElem?_set_self (by simpa using hm), List.getElem?_map, List.getElem?_range hm]
      simp [WS.sf, upf_same]
    · rw [List.getElem?_set_ne (fun e => q e.symm), List.getElem?_map, List.getElem?_map]
      by_cases hj : j < n
      · rw [List.getElem?_range hj]; simp [WS.sf, upf_ne _ _ q]
      · rw [List.getElem?_eq_none (by simpa using hj)]; rfl
  · have key : ∀ {k : Nat} {x : List V} {y : List V}, k ≠ 2 → st.mls[k]? = some x → (st.mls.set 2 y)[k]? = some x := fun {k x y} hk e => by rw [← e]; exact List.getElem?_set_ne (Ne.symm hk)
    exact ⟨I.hb, I.nb, key (by decide) I.m0, key (by decide) I.m1, List.getElem?_set_self hl, key (by decide) I.m3, I.s0, I.sr, I.dL, I.dR, I.tL, I.tR, I.ss, I.ww, I.wl, I.pl, I.cl, I.z⟩

/-! dicts read -/
section
variable {d : Nat} {enc : Nat → V} {t : Tab}
theorem DictAt.isin (x : DictAt st d enc t) (hs : Srt t) (c : Option Int) : cmpS st .isin (oV c) (.dict d) = some (inT t c) := by
  obtain ⟨es, h1, h2⟩ := x
  show ((st.dicts[d]?).bind _) = _
  rw [h1, Option.bind_some]
  cases c with
  | none => rfl
  | some c => show ((some (dget es c)).map _) = _; rw [h2.get hs]; simp [inT]
theorem DictAt.notin (x : DictAt st d enc t) (hs : Srt t) (c : Option Int) : cmpS st .notin (oV c) (.dict d) = some (!inT t c) := by
  have := x.isin hs c
  show (inS st (oV c) (.dict d)).map _ = _
  rw [show inS st (oV c) (.dict d) = some (inT t c) from this]; rfl
theorem DictAt.get (x : DictAt st d enc t) (hs : Srt t) {c : Int} {m : Nat} (hm : tget t c = some m) : getI st (.dict d) (.int c) = some (enc m) := by
  obtain ⟨es, h1, h2⟩ := x
  show ((st.dicts[d]?).bind _) = _
  rw [h1, Option.bind_some, h2.get hs, hm]; rfl
theorem DictAt.sorted (x : DictAt st d enc t) (ht : TabOk n t) : biS st .sorted (.dict d) = some (.list ((t.map (·.1)).map .int), st) := by
  obtain ⟨es, h1, h2⟩ := x
  show ((st.dicts[d]?).bind _) = _
  rw [h1, Option.bind_some, if_pos (by rw [h2.len]; have := ht.len; omega), h2.sort ht.srt]
theorem DictAt.len (x : DictAt st d enc t) (ht : TabOk n t) : biS st .len (.dict d) = some (.int t.length, st) := by
  obtain ⟨es, h1, h2⟩ := x
  show ((st.dicts[d]?).bind _) = _
  rw [h1, Option.bind_some, if_pos (by rw [h2.len]; have := ht.len; omega), h2.len]
theorem DictAt.rget (x : DictAt st d enc t) (hs : Srt t) (c : Option Int) (v : V) : bmS st .get (.dict d) [oV c, v] = some (((c.bind (tget t)).map enc).getD v, st) := by
  obtain ⟨es, h1, h2⟩ := x
  cases c with
  | none => show ((st.dicts[d]?).bind _) = _; rw [h1]; rfl
  | some c =>
    show ((st.dicts[d]?).bind _) = _
    rw [h1, Option.bind_some]
    show ((some (dget es c)).map _) = _
    rw [h2.get hs]; rfl
theorem DictAt.rget1 (x : DictAt st d enc t) (hs : Srt t) (c : Option Int) : bmS st .get (.dict d) [oV c] = some (((c.bind (tget t)).map enc).getD .none, st) := by
  obtain ⟨es, h1, h2⟩ := x
  cases c with
  | none => show ((st.dicts[d]?).bind _) = _; rw [h1]; rfl
  | some c =>
    show ((st.dicts[d]?).bind _) = _
    rw [h1, Option.bind_some]
    show ((some (dget es c)).map _) = _
    rw [h2.get hs]; rfl
theorem DictAt.isempty (x : DictAt st d enc t) (ht : TabOk n t) {e : Nat} (he : st.dicts[e]? = some []) : cmpS st .eq (.dict d) (.dict e) = some t.isEmpty := by
  obtain ⟨es, h1, h2⟩ := x
  have hl := h2.len
  have h3 := ht.len
  show eqS' st (.dict d) (.dict e) = _
  unfold eqS'
  show eqS st (.dict d) (.dict e) = _
  show (match st.dicts[d]?, st.dicts[e]? with
    | some x, some [] => if x.length ≤ 1000 then some x.isEmpty else none
    | _, _ => none) = _
  rw [h1, he]
  dsimp only
  rw [if_pos (by omega)]
  cases es <;> cases t <;> simp_all
end

/-! windows -/
theorem seen_ok (I : Inv full st h n R L) {m : Nat} (hm : m < n) {k : Nat} {Q : V → St → Prop} (q : ∀ st', Inv full st' h n (R.see m) L → Q .none st') : W2 (callF P (ev P (k + 6)) 107 [.obj 2 m] st) Q := by
  obtain ⟨b, c, h1, h2⟩ := I.ww m hm
  have hl := get_lt h1
  refine C_fn (l := [(26, .obj 2 m)]) rfl rfl ?_
  refine X_cons (S_asg (E_const (A_attr (E_var rfl (W1.of (v := { st with wins := st.wins.set m (winF m false c) }) ?_ ?_)))))
  · unfold setA; dsimp only
    rw [if_pos (show P.attr 2 21 = true from rfl)]
    show ((st.wins[m]?).bind _) = _
    rw [h1, Option.bind_some, if_pos (by show 10 ≤ 900; decide)]
    rfl
  refine X_cons (S_asg (E_const (A_attr (E_var rfl (W1.of (v := { st with wins := st.wins.set m (winF m false false) }) ?_ ?_)))))
  · unfold setA; dsimp only
    rw [if_pos (show P.attr 2 22 = true from rfl)]
    show (((st.wins.set m (winF m false c))[m]?).bind _) = _
    rw [List.getElem?_set_self hl, Option.bind_some, if_pos (by show 10 ≤ 900; decide)]
    show some ({ st with wins := (st.wins.set m _).set m _ } : St) = _
    rw [List.set_set]
    rfl
  refine X_nil (q _ ⟨I.hb, I.nb, I.m0, I.m1, I.m2, I.m3, I.s0, I.sr, I.dL, I.dR, I.tL, I.tR, I.ss, fun j hj => ?_, by rw [← I.wl]; exact List.length_set, I.pl, I.cl, I.z⟩)
  by_cases q : j = m
  · subst q
    exact ⟨false, false, List.getElem?_set_self hl, by simp [WS.see, WS.sf, upf_same]⟩
  · obtain ⟨b', c', h3, h4⟩ := I.ww j hj
    refine ⟨b', c', ?_, by rw [h4]; simp [WS.see, WS.sf, upf_ne _ _ q]⟩
    show (st.wins.set m _)[j]? = _
    rw [List.getElem?_set_ne (fun e => q e.symm)]; exact h3
end
end Mux
namespace Mux
theorem Inv.to {full : Bool} {st : St} {h n : Nat} {R L R' : WS} (I : Inv full st h n R L) (e : R' = R) : Inv full st h n R' L := e ▸ I
theorem Inv.to2 {full : Bool} {st : St} {h n : Nat} {R L L' : WS} (I : Inv full st h n R L) (e : L' = L) : Inv full st h n R L' := e ▸ I
theorem ex_int {i : Int} {Q : Int → Prop} (q : Q i) : ∃ b, V.int i = .int b ∧ Q b := ⟨i, rfl, q⟩
theorem ex_bool {i : Bool} {Q : Bool → Prop} (q : Q i) : ∃ b, V.bool i = .bool b ∧ Q b := ⟨i, rfl, q⟩

/-! comprehensions that leave the state alone -/
theorem comp_gen {r : Rec} {elt : PE} {t : Tg} {c : Option PE} {l : Loc} {s : St} {g : V → Option V} : ∀ {xs : List V}, (∀ v ∈ xs, compBody P r elt t c l v s = some (g v, s)) → compL P r elt t c l xs s = some (xs.filterMap g, s)
  | [], _ => rfl
  | x :: xs, h => by
    have h1 := h x (.head _)
    have h2 := comp_gen (xs := xs) fun v hv => h v (.tail _ hv)
    simp only [compL, h1, h2]
    cases e : g x <;> simp [List.filterMap_cons, e]
section
variable {n : Nat} {l : Loc} {s : St} {Q : V → St → Prop} {x : Nat}
theorem E_filter {e c : PE} (p : Int → Bool) (h : W2 ((ev P (n + 1)).E e l s) fun v s1 => ∃ ks : List Int, v = .list (ks.map .int) ∧ ks.length ≤ 1000 ∧ (∀ k ∈ ks, W2 ((ev P (n + 1)).B c (upd x (.int k) (lrm [x] l)) s1) fun b s' => b = p k ∧ s' = s1) ∧ Q (.list ((ks.filter p).map .int)) s1) :
    W2 ((ev P (n + 2)).E (.comp (.var x) (.var x) (.val e) (some c)) l s) Q := by
  obtain ⟨v, s1, h1, ks, rfl, h2, h3, q⟩ := h
  refine E_comp (src_val ⟨_, s1, h1, .inl ⟨_, .inl rfl, by simpa using h2, ?_⟩⟩)
  refine ⟨_, s1, comp_gen (g := fun v => match v with | .int k => if p k then some (.int k) else none | _ => none) fun v hv => ?_, ?_⟩
  · obtain ⟨k, hk, rfl⟩ := List.mem_map.mp hv
    obtain ⟨b, s', h4, rfl, rfl⟩ := h3 k hk
    have h5 : (ev P (n + 1)).E (.var x) (upd x (.int k) (lrm [x] l)) s' = some (.int k, s') := by
      rw [ev_E]; simp [stepE, lget_upd]
    simp only [compBody, assign]
    rw [show lrm (Tg.vars (.var x)) l = lrm [x] l from by rw [Tg.vars]]
    rw [h4]
    cases p k with
    | false => rfl
    | true => dsimp only; rw [h5]; rfl
  · have : ((ks.map V.int).filterMap fun v => match v with | .int k => if p k then some (V.int k) else none | _ => none) = (ks.filter p).map .int := by
      rw [List.filterMap_map]
      clear h1 h2 h3 q
      induction ks with
      | nil => rfl
      | cons a r ih =>
        rw [List.filterMap_cons, ih]
        cases e : p a <;> simp [List.filter_cons, e]
    rw [this]; exact q
theorem E_mapK {e elt : PE} (f : Int → V) (h : W2 ((ev P (n + 1)).E e l s) fun v s1 => ∃ ks : List Int, v = .list (ks.map .int) ∧ ks.length ≤ 1000 ∧ (∀ k ∈ ks, W2 ((ev P (n + 1)).E elt (upd x (.int k) (lrm [x] l)) s1) fun b s' => b = f k ∧ s' = s1) ∧ Q (.list (ks.map f)) s1) :
    W2 ((ev P (n + 2)).E (.comp elt (.var x) (.val e) none) l s) Q := by
  obtain ⟨v, s1, h1, ks, rfl, h2, h3, q⟩ := h
  refine E_comp (src_val ⟨_, s1, h1, .inl ⟨_, .inl rfl, by simpa using h2, ?_⟩⟩)
  refine ⟨_, s1, comp_gen (g := fun v => match v with | .int k => some (f k) | _ => none) fun v hv => ?_, ?_⟩
  · obtain ⟨k, hk, rfl⟩ := List.mem_map.mp hv
    obtain ⟨b, s', h4, rfl, rfl⟩ := h3 k hk
    simp only [compBody, assign]
    rw [show lrm (Tg.vars (.var x)) l = lrm [x] l from by rw [Tg.vars]]
    rw [h4]
  · have : ((ks.map V.int).filterMap fun v => match v with | .int k => some (f k) | _ => none) = ks.map f := by
      rw [List.filterMap_map]
      clear h1 h2 h3 q
      induction ks with
      | nil => rfl
      | cons a r ih => rw [List.filterMap_cons, ih]; rfl
    rw [this]; exact q
/-- a test against a fresh empty list -/
theorem all_int {ks : List Int} : (ks.map V.int).all V.sc = true := by
  rw [List.all_map, List.all_eq_true]; intro x _; rfl
theorem eqS_nil {s : St} {ks : List Int} {k : Nat} (h : s.mls[k]? = some []) : eqS s (.list (ks.map .int)) (.ml k) = some ks.isEmpty := by
  show (match some (ks.map V.int), s.mls[k]? with
    | some xs, some ys => if xs.all V.sc && ys.all V.sc then eqs1 xs ys else .none
    | _, _ => _) = _
  rw [h]
  dsimp only
  rw [all_int]
  cases ks <;> rfl
theorem E_ne_ml {e : PE} (h : W2 ((ev P (n + 1)).E e l s) fun v s1 => ∃ ks : List Int, v = .list (ks.map .int) ∧ Q (.bool (!ks.isEmpty)) { s1 with mls := s1.mls ++ [[]] }) : W2 ((ev P (n + 2)).E (.cmp .ne e (.ml [])) l s) Q := by
  obtain ⟨v, s1, h1, ks, rfl, q⟩ := h
  refine E_cmp ⟨_, s1, h1, E_ml (L_nil ⟨by decide, W1.of (v := !ks.isEmpty) ?_ q⟩)⟩
  show (eqS _ _ _).map _ = _
  rw [eqS_nil (by show (s1.mls ++ [[]])[s1.mls.length]? = _; simp)]; rfl
theorem B_ne_ml {e : PE} {Q : Bool → St → Prop} (h : W2 ((ev P (n + 1)).E e l s) fun v s1 => ∃ ks : List Int, v = .list (ks.map .int) ∧ Q (!ks.isEmpty) { s1 with mls := s1.mls ++ [[]] }) : W2 ((ev P (n + 2)).B (.cmp .ne e (.ml [])) l s) Q := by
  obtain ⟨v, s1, h1, ks, rfl, q⟩ := h
  refine B_cmp ⟨_, s1, h1, E_ml (L_nil ⟨by decide, W1.of (v := !ks.isEmpty) ?_ q⟩)⟩
  show (eqS _ _ _).map _ = _
  rw [eqS_nil (by show (s1.mls ++ [[]])[s1.mls.length]? = _; simp)]; rfl
end

/-! places of lists -/
theorem at_head {ks : List Int} (h : ks ≠ []) (d : Int) {s : St} : getI s (.list (ks.map .int)) (.int 0) = some (.int (ks.headD d)) := by
  cases ks with
  | nil => exact absurd rfl h
  | cons a r => rfl
theorem at_last {ks : List Int} (h : ks ≠ []) (d : Int) {s : St} : getI s (.list (ks.map .int)) (.int (-1)) = some (.int (ks.getLastD d)) := by
  show at? _ _ = _
  unfold at?
  have hl : 0 < ks.length := List.length_pos_iff.mpr h
  rw [if_neg (by decide), if_pos (by rw [List.length_map]; omega), List.length_map]
  rw [show (-1 + (ks.length : Int)).toNat = ks.length - 1 by omega, List.getElem?_map, ← List.getLast?_eq_getElem?]
  cases ks with
  | nil => exact absurd rfl h
  | cons a r => rw [List.getLast?_eq_some_getLast (by simp)]; simp [List.getLastD_eq_getLast?, List.getLast?_eq_some_getLast]
theorem getK {ks : List Int} {i : Nat} {s : St} (hi : i < ks.length) (hk : ks.length ≤ 1000) : getI s (.list (ks.map .int)) (.int i) = some (.int (ks[i])) := by
  show at? _ _ = _
  unfold at?
  rw [if_pos (by omega), if_pos (by omega), Int.toNat_natCast, List.getElem?_map, List.getElem?_eq_getElem hi]; rfl
theorem add_int {s : St} {a b : List Int} (h : a.length + b.length ≤ 1000) : binS s .add (.list (a.map .int)) (.list (b.map .int)) = some (.list ((a ++ b).map .int)) := by
  show (match some (a.map V.int), some (b.map V.int) with
    | some xs, some ys => if xs.length + ys.length ≤ 1000 then some (V.list (xs ++ ys)) else .none
    | _, _ => .none) = _
  dsimp only
  rw [if_pos (by simpa using h), List.map_append]

/-! the greatest key -/
theorem maxI_some : ∀ {a : List Int}, a ≠ [] → ∃ m, maxI a = some m
  | [], h => absurd rfl h
  | x :: r, _ => ⟨_, rfl⟩
theorem minI_some : ∀ {a : List Int}, a ≠ [] → ∃ m, minI a = some m
  | [], h => absurd rfl h
  | x :: r, _ => ⟨_, rfl⟩
theorem maxI_perm {a b : List Int} (hp : a.Perm b) (hb : b.Pairwise (· < ·)) (hn : b ≠ []) (d : Int) : maxI a = some (b.getLastD d) := by
  obtain ⟨m, hm⟩ := maxI_some (a := a) (fun e => hn (by subst e; exact hp.nil_eq.symm))
  obtain ⟨h1, h2⟩ := maxI_spec hm
  rw [hm]
  congr 1
  have h3 : m ∈ b := hp.mem_iff.mp h1
  have h4 : ∀ y ∈ b, y ≤ m := fun y hy => h2 y (hp.mem_iff.mpr hy)
  clear hm h1 h2 hp
  induction b with
  | nil => exact absurd rfl hn
  | cons x r ih =>
    have h' := List.pairwise_cons.mp hb
    cases r with
    | nil => simpa using h3
    | cons y r =>
      have h5 : m ∈ y :: r := by
        rcases List.mem_cons.mp h3 with e | e
        · have := h'.1 y (.head _)
          have := h4 y (.tail _ (.head _))
          omega
        · exact e
      have := ih h'.2 (by simp) h5 (fun z hz => h4 z (.tail _ hz))
      rw [this]; simp
theorem minI_perm {a b : List Int} (hp : a.Perm b) (hb : b.Pairwise (· < ·)) (hn : b ≠ []) (d : Int) : minI a = some (b.headD d) := by
  obtain ⟨m, hm⟩ := minI_some (a := a) (fun e => hn (by subst e; exact hp.nil_eq.symm))
  obtain ⟨h1, h2⟩ := minI_spec hm
  rw [hm]
  congr 1
  have h3 : m ∈ b := hp.mem_iff.mp h1
  have h4 : ∀ y ∈ b, m ≤ y := fun y hy => h2 y (hp.mem_iff.mpr hy)
  cases b with
  | nil => exact absurd rfl hn
  | cons x r =>
    have h' := List.pairwise_cons.mp hb
    have := h4 x (.head _)
    rcases List.mem_cons.mp h3 with e | e
    · exact e
    · have := h'.1 m e
      show m = x
      omega
def keys (t : Tab) : List Int := t.map (·.1)
theorem keys_asc {t : Tab} (h : Srt t) : (keys t).Pairwise (· < ·) := by unfold keys; rw [List.pairwise_map]; exact h
theorem keys_nil {t : Tab} : keys t = [] ↔ t = [] := by unfold keys; exact List.map_eq_nil_iff
theorem keys_len {t : Tab} : (keys t).length = t.length := List.length_map ..
section
variable {st : St} {d n : Nat} {enc : Nat → V} {t : Tab}
theorem DictAt.max (x : DictAt st d enc t) (ht : TabOk n t) (hn : t ≠ []) (z : Int) : biS st .max (.dict d) = some (.int ((keys t).getLastD z), st) := by
  obtain ⟨es, h1, h2⟩ := x
  show ((st.dicts[d]?).bind _) = _
  rw [h1, Option.bind_some, if_pos (by rw [h2.len]; have := ht.len; omega), maxI_perm h2.keys (keys_asc ht.srt) (fun e => hn (keys_nil.mp e)) z]; rfl
theorem DictAt.min (x : DictAt st d enc t) (ht : TabOk n t) (hn : t ≠ []) (z : Int) : biS st .min (.dict d) = some (.int ((keys t).headD z), st) := by
  obtain ⟨es, h1, h2⟩ := x
  show ((st.dicts[d]?).bind _) = _
  rw [h1, Option.bind_some, if_pos (by rw [h2.len]; have := ht.len; omega), minI_perm h2.keys (keys_asc ht.srt) (fun e => hn (keys_nil.mp e)) z]; rfl
end
theorem W2.to {α : Type} {x : Option (α × St)} {v : α} {s : St} {Q : α → St → Prop} (h : W2 x fun v' s' => v' = v ∧ s' = s) (q : Q v s) : W2 x Q := h.imp fun v s ⟨a, b⟩ => by subst a; subst b; exact q
theorem W2.via {α : Type} {x : Option (α × St)} (v : α) (J : St → Prop) {Q : α → St → Prop} (h : W2 x fun v' s' => v' = v ∧ J s') (q : ∀ s, J s → Q v s) : W2 x Q := h.imp fun v s ⟨a, b⟩ => by subst a; exact q s b
theorem S_cut {r : Rec} {x : PS} {l : Loc} {s : St} {Q : Fl → Loc → St → Prop} (J : St → Prop) (h : W3 (r.S x l s) fun f l' s' => f = .next ∧ l' = l ∧ J s') (k : ∀ s', J s' → Q .next l s') : W3 (r.S x l s) Q := h.imp fun f l' s' ⟨a, b, c⟩ => by subst a; subst b; exact k s' c
theorem S_cut2 {r : Rec} {x : PS} {l l2 : Loc} {s : St} {Q : Fl → Loc → St → Prop} {J : St → Prop} (h : W3 (r.S x l s) fun f l' s' => f = .next ∧ l' = l2 ∧ J s') (k : ∀ s', J s' → Q .next l2 s') : W3 (r.S x l s) Q := h.imp fun f l' s' ⟨a, b, c⟩ => by subst a; subst b; exact k s' c
theorem mt1 {i : Nat} {Q : Nat → Nat → Nat → Prop} (q : Q 1 i 104) : ∃ c' i' f', V.obj 1 i = .obj c' i' ∧ P.meth c' 1 = some f' ∧ Q c' i' f' := ⟨_, _, _, rfl, rfl, q⟩
theorem mt2 {i : Nat} {Q : Nat → Nat → Nat → Prop} (q : Q 2 i 105) : ∃ c' i' f', V.obj 2 i = .obj c' i' ∧ P.meth c' 2 = some f' ∧ Q c' i' f' := ⟨_, _, _, rfl, rfl, q⟩
theorem mt3 {i : Nat} {Q : Nat → Nat → Nat → Prop} (q : Q 2 i 106) : ∃ c' i' f', V.obj 2 i = .obj c' i' ∧ P.meth c' 3 = some f' ∧ Q c' i' f' := ⟨_, _, _, rfl, rfl, q⟩
theorem mt4 {i : Nat} {Q : Nat → Nat → Nat → Prop} (q : Q 2 i 107) : ∃ c' i' f', V.obj 2 i = .obj c' i' ∧ P.meth c' 4 = some f' ∧ Q c' i' f' := ⟨_, _, _, rfl, rfl, q⟩
theorem mt5 {i : Nat} {Q : Nat → Nat → Nat → Prop} (q : Q 3 i 108) : ∃ c' i' f', V.obj 3 i = .obj c' i' ∧ P.meth c' 5 = some f' ∧ Q c' i' f' := ⟨_, _, _, rfl, rfl, q⟩
theorem mt6 {i : Nat} {Q : Nat → Nat → Nat → Prop} (q : Q 3 i 109) : ∃ c' i' f', V.obj 3 i = .obj c' i' ∧ P.meth c' 6 = some f' ∧ Q c' i' f' := ⟨_, _, _, rfl, rfl, q⟩
theorem mt7 {i : Nat} {Q : Nat → Nat → Nat → Prop} (q : Q 3 i 110) : ∃ c' i' f', V.obj 3 i = .obj c' i' ∧ P.meth c' 7 = some f' ∧ Q c' i' f' := ⟨_, _, _, rfl, rfl, q⟩
theorem mt8 {i : Nat} {Q : Nat → Nat → Nat → Prop} (q : Q 3 i 111) : ∃ c' i' f', V.obj 3 i = .obj c' i' ∧ P.meth c' 8 = some f' ∧ Q c' i' f' := ⟨_, _, _, rfl, rfl, q⟩
theorem mt9 {i : Nat} {Q : Nat → Nat → Nat → Prop} (q : Q 3 i 112) : ∃ c' i' f', V.obj 3 i = .obj c' i' ∧ P.meth c' 9 = some f' ∧ Q c' i' f' := ⟨_, _, _, rfl, rfl, q⟩
theorem mt10 {i : Nat} {Q : Nat → Nat → Nat → Prop} (q : Q 3 i 113) : ∃ c' i' f', V.obj 3 i = .obj c' i' ∧ P.meth c' 10 = some f' ∧ Q c' i' f' := ⟨_, _, _, rfl, rfl, q⟩
theorem mt11 {i : Nat} {Q : Nat → Nat → Nat → Prop} (q : Q 3 i 114) : ∃ c' i' f', V.obj 3 i = .obj c' i' ∧ P.meth c' 11 = some f' ∧ Q c' i' f' := ⟨_, _, _, rfl, rfl, q⟩
theorem mt12 {i : Nat} {Q : Nat → Nat → Nat → Prop} (q : Q 3 i 115) : ∃ c' i' f', V.obj 3 i = .obj c' i' ∧ P.meth c' 12 = some f' ∧ Q c' i' f' := ⟨_, _, _, rfl, rfl, q⟩
theorem mt13 {i : Nat} {Q : Nat → Nat → Nat → Prop} (q : Q 3 i 116) : ∃ c' i' f', V.obj 3 i = .obj c' i' ∧ P.meth c' 13 = some f' ∧ Q c' i' f' := ⟨_, _, _, rfl, rfl, q⟩
theorem mt14 {i : Nat} {Q : Nat → Nat → Nat → Prop} (q : Q 3 i 117) : ∃ c' i' f', V.obj 3 i = .obj c' i' ∧ P.meth c' 14 = some f' ∧ Q c' i' f' := ⟨_, _, _, rfl, rfl, q⟩
theorem mt15 {i : Nat} {Q : Nat → Nat → Nat → Prop} (q : Q 3 i 118) : ∃ c' i' f', V.obj 3 i = .obj c' i' ∧ P.meth c' 15 = some f' ∧ Q c' i' f' := ⟨_, _, _, rfl, rfl, q⟩
theorem mt16 {i : Nat} {Q : Nat → Nat → Nat → Prop} (q : Q 3 i 119) : ∃ c' i' f', V.obj 3 i = .obj c' i' ∧ P.meth c' 16 = some f' ∧ Q c' i' f' := ⟨_, _, _, rfl, rfl, q⟩
section
variable {full : Bool} {st : St} {h n : Nat} {R L : WS} {i : Nat} {Q : V → Prop}
theorem w_sess_tab (I : Inv true st h n R L) (hi : i < 3) (q : Q (.dict (2 + tb i))) : W1 (getA P st 23 (.obj 3 i)) Q := W1.of (sess_tab I hi) q
theorem w_sess_cur (I : Inv true st h n R L) (hi : i < 3) (q : Q (oV (R.cur i))) : W1 (getA P st 25 (.obj 3 i)) Q := W1.of (sess_cur I hi) q
theorem w_sess_last (I : Inv true st h n R L) (hi : i < 3) (q : Q (oV (R.last i))) : W1 (getA P st 18 (.obj 3 i)) Q := W1.of (sess_last I hi) q
theorem w_sess_grp (I : Inv true st h n R L) (hi : i < 3) (q : Q (grp i)) : W1 (getA P st 24 (.obj 3 i)) Q := W1.of (sess_grp I hi) q
theorem w_row_tab (I : Inv true st h n R L) (hi : i < 3) (q : Q (.int (tb i))) : W1 (getI st (.sd (1 + i)) (.str 62)) Q := W1.of (row_tab I hi) q
theorem w_row_cur (I : Inv true st h n R L) (hi : i < 3) (q : Q (oV (L.cur i))) : W1 (getI st (.sd (1 + i)) (.str 25)) Q := W1.of (row_cur I hi) q
theorem w_row_last (I : Inv true st h n R L) (hi : i < 3) (q : Q (oV (L.last i))) : W1 (getI st (.sd (1 + i)) (.str 18)) Q := W1.of (row_last I hi) q
theorem w_wd_wins (I : Inv full st h n R L) (q : Q (.ml 1)) : W1 (getI st (.sd 0) (.str 23)) Q := W1.of (wd_wins I) q
theorem w_wd_noted (I : Inv full st h n R L) (q : Q (.ml 2)) : W1 (getI st (.sd 0) (.str 65)) Q := W1.of (wd_noted I) q
theorem w_wd_tabs (I : Inv full st h n R L) (q : Q (.list tabsL)) : W1 (getI st (.sd 0) (.str 64)) Q := W1.of (wd_tabs I) q
theorem w_wd_real (I : Inv full st h n R L) (q : Q (.list realL)) : W1 (getI st (.sd 0) (.str 76)) Q := W1.of (wd_real I) q
theorem w_wd_rows (I : Inv full st h n R L) (q : Q (.ml 3)) : W1 (getI st (.sd 0) (.str 9)) Q := W1.of (wd_rows I) q
theorem w_wd_sess (I : Inv true st h n R L) (q : Q (.list sessL)) : W1 (getI st (.sd 0) (.str 49)) Q := W1.of (wd_sess I) q
theorem w_wd_row (I : Inv true st h n R L) (hi : i < 3) (q : Q (.sd (1 + i))) : W1 (getI st (.ml 3) (.int i)) Q := W1.of (wd_row I hi) q
theorem w_ls_sess (hi : i < 3) (q : Q (.obj 3 i)) : W1 (getI st (.list sessL) (.int i)) Q := W1.of (ls_sess hi) q
theorem w_ls_tabs (q : Q (.dict (tb i))) : W1 (getI st (.list tabsL) (.int (tb i))) Q := W1.of (ls_tabs (tb_lt i)) q
theorem w_ls_real (q : Q (.dict (2 + tb i))) : W1 (getI st (.list realL) (.int (tb i))) Q := W1.of (ls_real (tb_lt i)) q
theorem w_win (I : Inv full st h n R L) {m : Nat} (hm : m < n) (q : Q (.obj 2 m)) : W1 (getI st (.ml 1) (.int m)) Q := W1.of (wd_win I hm) q
theorem w_note (I : Inv full st h n R L) {m : Nat} (hm : m < n) (q : Q (.bool (L.fl m))) : W1 (getI st (.ml 2) (.int m)) Q := W1.of (wd_note I hm) q
theorem w_getR (I : Inv full st h n R L) {m : Nat} {c : Int} (hm : tget (R.tab (tb i)) c = some m) (q : Q (.obj 2 m)) : W1 (getI st (.dict (2 + tb i)) (.int c)) Q := W1.of ((I.dR _ (tb_lt i)).get (I.tR _ (tb_lt i)).srt hm) q
theorem w_getL (I : Inv full st h n R L) {m : Nat} {c : Int} (hm : tget (L.tab (tb i)) c = some m) (q : Q (.int m)) : W1 (getI st (.dict (tb i)) (.int c)) Q := W1.of ((I.dL _ (tb_lt i)).get (I.tL _ (tb_lt i)).srt hm) q
theorem w_at (k : Int) {xs : List V} {v : V} (hm : at? xs k = some v) (q : Q v) : W1 (getI st (.list xs) (.int k)) Q := W1.of hm q
theorem w_num {m : Nat} (I : Inv full st h n R L) (hm : m < n) (q : Q (.int m)) : W1 (getA P st 7 (.obj 2 m)) Q := by
  obtain ⟨b, c, h1, h2⟩ := I.ww m hm
  refine W1.of ?_ q
  unfold getA; dsimp only
  rw [if_pos (show P.attr 2 7 = true from rfl)]
  show ((st.wins[m]?).bind _) = _
  rw [h1]; rfl
end
section
variable {full : Bool} {st : St} {h n : Nat} {R L : WS} {i : Nat} {c a b : Option Int} {k : Int} {Q : Bool → Prop}
theorem is_none {st : St} {c : Option Int} : cmpS st .is (oV c) .none = some c.isNone := by cases c <;> rfl
theorem isnot_none {st : St} {c : Option Int} : cmpS st .isnot (oV c) .none = some (!c.isNone) := by cases c <;> rfl
theorem eq_oV {st : St} {a b : Option Int} : cmpS st .eq (oV a) (oV b) = some (decide (a = b)) := by
  cases a with
  | none => cases b <;> rfl
  | some a => cases b with
    | none => rfl
    | some b => show some (a == b) = _; by_cases q : a = b <;> simp [q]
theorem ne_oV {st : St} {a b : Option Int} : cmpS st .ne (oV a) (oV b) = some (!decide (a = b)) := by
  cases a with
  | none => cases b <;> rfl
  | some a => cases b with
    | none => rfl
    | some b => show some (!(a == b)) = _; by_cases q : a = b <;> simp [q]
theorem c_isnone (q : Q c.isNone) : W1 (cmpS st .is (oV c) .none) Q := W1.of is_none q
theorem c_isnotnone (q : Q (!c.isNone)) : W1 (cmpS st .isnot (oV c) .none) Q := W1.of isnot_none q
theorem c_eq (q : Q (decide (a = b))) : W1 (cmpS st .eq (oV a) (oV b)) Q := W1.of eq_oV q
theorem c_ne (q : Q (!decide (a = b))) : W1 (cmpS st .ne (oV a) (oV b)) Q := W1.of ne_oV q
theorem c_ne1 (q : Q (!decide (some k = b))) : W1 (cmpS st .ne (.int k) (oV b)) Q := W1.of (ne_oV (a := some k)) q
theorem c_eqI {x y : Int} (q : Q (decide (x = y))) : W1 (cmpS st .eq (.int x) (.int y)) Q := W1.of (show some (x == y) = _ by by_cases q : x = y <;> simp [q]) q
theorem c_neI {x y : Int} (q : Q (!decide (x = y))) : W1 (cmpS st .ne (.int x) (.int y)) Q := W1.of (show some (!(x == y)) = _ by by_cases q : x = y <;> simp [q]) q
theorem c_gt {x y : Int} (q : Q (decide (x > y))) : W1 (cmpS st .gt (.int x) (.int y)) Q := ⟨_, rfl, q⟩
theorem c_lt {x y : Int} (q : Q (decide (x < y))) : W1 (cmpS st .lt (.int x) (.int y)) Q := ⟨_, rfl, q⟩
theorem c_inR (I : Inv full st h n R L) (q : Q (inT (R.tab (tb i)) c)) : W1 (cmpS st .isin (oV c) (.dict (2 + tb i))) Q := W1.of ((I.dR _ (tb_lt i)).isin (I.tR _ (tb_lt i)).srt c) q
theorem c_ninR (I : Inv full st h n R L) (q : Q (!inT (R.tab (tb i)) c)) : W1 (cmpS st .notin (oV c) (.dict (2 + tb i))) Q := W1.of ((I.dR _ (tb_lt i)).notin (I.tR _ (tb_lt i)).srt c) q
theorem c_inL (I : Inv full st h n R L) (q : Q (inT (L.tab (tb i)) c)) : W1 (cmpS st .isin (oV c) (.dict (tb i))) Q := W1.of ((I.dL _ (tb_lt i)).isin (I.tL _ (tb_lt i)).srt c) q
theorem c_ninL (I : Inv full st h n R L) (q : Q (!inT (L.tab (tb i)) c)) : W1 (cmpS st .notin (oV c) (.dict (tb i))) Q := W1.of ((I.dL _ (tb_lt i)).notin (I.tL _ (tb_lt i)).srt c) q
theorem c_inR1 (I : Inv full st h n R L) (q : Q (inT (R.tab (tb i)) (some k))) : W1 (cmpS st .isin (.int k) (.dict (2 + tb i))) Q := c_inR (c := some k) I q
theorem c_ninR1 (I : Inv full st h n R L) (q : Q (!inT (R.tab (tb i)) (some k))) : W1 (cmpS st .notin (.int k) (.dict (2 + tb i))) Q := c_ninR (c := some k) I q
theorem c_inL1 (I : Inv full st h n R L) (q : Q (inT (L.tab (tb i)) (some k))) : W1 (cmpS st .isin (.int k) (.dict (tb i))) Q := c_inL (c := some k) I q
theorem c_ninL1 (I : Inv full st h n R L) (q : Q (!inT (L.tab (tb i)) (some k))) : W1 (cmpS st .notin (.int k) (.dict (tb i))) Q := c_ninL (c := some k) I q
theorem b_add {x y : Int} {Q : V → Prop} (q : Q (.int (x + y))) : W1 (binS st .add (.int x) (.int y)) Q := ⟨_, rfl, q⟩
theorem b_sub {x y : Int} {Q : V → Prop} (q : Q (.int (x - y))) : W1 (binS st .sub (.int x) (.int y)) Q := ⟨_, rfl, q⟩
theorem bi_sortR (I : Inv full st h n R L) {Q : V → St → Prop} (q : Q (.list ((keys (R.tab (tb i))).map .int)) st) : W2 (biS st .sorted (.dict (2 + tb i))) Q := W2.of ((I.dR _ (tb_lt i)).sorted (I.tR _ (tb_lt i))) q
theorem bi_sortL (I : Inv full st h n R L) {Q : V → St → Prop} (q : Q (.list ((keys (L.tab (tb i))).map .int)) st) : W2 (biS st .sorted (.dict (tb i))) Q := W2.of ((I.dL _ (tb_lt i)).sorted (I.tL _ (tb_lt i))) q
theorem bi_lenL (I : Inv full st h n R L) {Q : V → St → Prop} (q : Q (.int (L.tab (tb i)).length) st) : W2 (biS st .len (.dict (tb i))) Q := W2.of ((I.dL _ (tb_lt i)).len (I.tL _ (tb_lt i))) q
end
theorem upf_upf {α : Type} {f : Nat → α} {i : Nat} {a b : α} : upf (upf f i a) i b = upf f i b := by
  funext j
  unfold upf
  split <;> rfl
theorem TabOk.lt {t : Tab} {n m : Nat} {c : Int} (h : TabOk n t) (hm : tget t c = some m) : m < n := h.num _ ((tget_iff h.srt).mp hm)
theorem inT_some {t : Tab} {c : Int} (h : inT t (some c) = true) : ∃ m, tget t c = some m := Option.isSome_iff_exists.mp h
theorem le1000 {m : Nat} {p : Prop} (h : Nat.ble m 1000 = true) (q : p) : m ≤ 1000 ∧ p := ⟨Nat.le_of_ble_eq_true h, q⟩
local macro_rules | `(tactic| walk_at "mux_r") => `(tactic| (repeat' (first | with_reducible refine X_cons ?_ | with_reducible refine X_nil ?_ | with_reducible refine S_asg ?_ | with_reducible refine S_expr ?_ | with_reducible refine S_ret ?_ | with_reducible refine S_ret0 ?_ | with_reducible refine E_tup ?_ | with_reducible refine E_list ?_ | with_reducible refine L_cons ?_ | with_reducible refine L_nil ?_ | with_reducible refine E_const ?_ | with_reducible refine E_var rfl ?_ | with_reducible refine E_attr ?_ | with_reducible refine E_idx ?_ | with_reducible refine E_bin ?_ | with_reducible refine E_cmp ?_ | with_reducible refine B_cmp ?_ | with_reducible refine B_var rfl ?_ | with_reducible refine B_not ?_ | with_reducible refine B_attr ?_ | with_reducible refine B_idx ?_ | with_reducible refine B_call ?_ | with_reducible refine E_call ?_ | with_reducible refine E_bi ?_ | with_reducible refine E_bm ?_ | with_reducible refine E_ml ?_ | with_reducible refine E_dict0 ?_ | with_reducible refine E_neg ?_ | with_reducible refine E_meth ?_ | with_reducible refine A_var ?_ | with_reducible refine A_attr ?_ | with_reducible refine A_idx ?_ | with_reducible refine A_tup2 ?_ | with_reducible refine A_tup3 ?_ | with_reducible refine src_val ?_ | with_reducible refine src_range ?_ | with_reducible refine src_enum ?_ | with_reducible refine E_new ?_ | with_reducible refine w_sess_tab (by assumption) (by assumption) ?_ | with_reducible refine w_sess_cur (by assumption) (by assumption) ?_ | with_reducible refine w_sess_last (by assumption) (by assumption) ?_ | with_reducible refine w_sess_grp (by assumption) (by assumption) ?_ | with_reducible refine w_row_tab (by assumption) (by assumption) ?_ | with_reducible refine w_row_cur (by assumption) (by assumption) ?_ | with_reducible refine w_row_last (by assumption) (by assumption) ?_ | with_reducible refine w_wd_wins (by assumption) ?_ | with_reducible refine w_wd_noted (by assumption) ?_ | with_reducible refine w_wd_tabs (by assumption) ?_ | with_reducible refine w_wd_real (by assumption) ?_ | with_reducible refine w_wd_rows (by assumption) ?_ | with_reducible refine w_wd_sess (by assumption) ?_ | with_reducible refine w_wd_row (by assumption) (by assumption) ?_ | with_reducible refine w_ls_sess (by assumption) ?_ | with_reducible refine w_ls_tabs ?_ | with_reducible refine w_ls_real ?_ | with_reducible refine w_win (by assumption) (by assumption) ?_ | with_reducible refine w_note (by assumption) (by assumption) ?_ | with_reducible refine w_getR (by assumption) (by assumption) ?_ | with_reducible refine w_getL (by assumption) (by assumption) ?_ | with_reducible refine w_num (by assumption) (by assumption) ?_ | with_reducible refine c_isnone ?_ | with_reducible refine c_isnotnone ?_ | with_reducible refine c_eq ?_ | with_reducible refine c_ne ?_ | with_reducible refine c_ne1 ?_ | with_reducible refine c_eqI ?_ | with_reducible refine c_neI ?_ | with_reducible refine c_gt ?_ | with_reducible refine c_lt ?_ | with_reducible refine c_inR (by assumption) ?_ | with_reducible refine c_ninR (by assumption) ?_ | with_reducible refine c_inL (by assumption) ?_ | with_reducible refine c_ninL (by assumption) ?_ | with_reducible refine c_inR1 (by assumption) ?_ | with_reducible refine c_ninR1 (by assumption) ?_ | with_reducible refine c_inL1 (by assumption) ?_ | with_reducible refine c_ninL1 (by assumption) ?_ | with_reducible refine b_add ?_ | with_reducible refine b_sub ?_ | with_reducible refine bi_sortR (by assumption) ?_ | with_reducible refine bi_sortL (by assumption) ?_ | with_reducible refine bi_lenL (by assumption) ?_ | with_reducible refine ex_int ?_ | with_reducible refine ex_bool ?_ | with_reducible refine mt1 ?_ | with_reducible refine mt2 ?_ | with_reducible refine mt3 ?_ | with_reducible refine mt4 ?_ | with_reducible refine mt5 ?_ | with_reducible refine mt6 ?_ | with_reducible refine mt7 ?_ | with_reducible refine mt8 ?_ | with_reducible refine mt9 ?_ | with_reducible refine mt10 ?_ | with_reducible refine mt11 ?_ | with_reducible refine mt12 ?_ | with_reducible refine mt13 ?_ | with_reducible refine mt14 ?_ | with_reducible refine mt15 ?_ | with_reducible refine mt16 ?_ | with_reducible refine le1000 rfl ?_ | fail)))
local macro_rules | `(tactic| walk_at "mux_i") => `(tactic| (repeat' (first | with_reducible refine X_cons ?_ | with_reducible refine X_nil ?_ | with_reducible refine S_asg ?_ | with_reducible refine S_expr ?_ | with_reducible refine S_ret ?_ | with_reducible refine S_ret0 ?_ | with_reducible refine E_tup ?_ | with_reducible refine E_list ?_ | with_reducible refine L_cons ?_ | with_reducible refine L_nil ?_ | with_reducible refine E_const ?_ | with_reducible refine E_var rfl ?_ | with_reducible refine E_attr ?_ | with_reducible refine E_idx ?_ | with_reducible refine E_bin ?_ | with_reducible refine E_cmp ?_ | with_reducible refine B_cmp ?_ | with_reducible refine B_var rfl ?_ | with_reducible refine B_not ?_ | with_reducible refine B_attr ?_ | with_reducible refine B_idx ?_ | with_reducible refine B_call ?_ | with_reducible refine E_call ?_ | with_reducible refine E_bi ?_ | with_reducible refine E_bm ?_ | with_reducible refine E_ml ?_ | with_reducible refine E_dict0 ?_ | with_reducible refine E_neg ?_ | with_reducible refine E_meth ?_ | with_reducible refine A_var ?_ | with_reducible refine A_attr ?_ | with_reducible refine A_idx ?_ | with_reducible refine A_tup2 ?_ | with_reducible refine A_tup3 ?_ | with_reducible refine src_val ?_ | with_reducible refine src_range ?_ | with_reducible refine src_enum ?_ | with_reducible refine E_new ?_ | with_reducible refine c_isnone ?_ | with_reducible refine c_isnotnone ?_ | with_reducible refine c_eq ?_ | with_reducible refine c_ne ?_ | with_reducible refine c_ne1 ?_ | with_reducible refine c_eqI ?_ | with_reducible refine c_neI ?_ | with_reducible refine c_gt ?_ | with_reducible refine c_lt ?_ | with_reducible refine c_inR (by assumption) ?_ | with_reducible refine c_ninR (by assumption) ?_ | with_reducible refine c_inL (by assumption) ?_ | with_reducible refine c_ninL (by assumption) ?_ | with_reducible refine c_inR1 (by assumption) ?_ | with_reducible refine c_ninR1 (by assumption) ?_ | with_reducible refine c_inL1 (by assumption) ?_ | with_reducible refine c_ninL1 (by assumption) ?_ | with_reducible refine b_add ?_ | with_reducible refine b_sub ?_ | with_reducible refine bi_sortR (by assumption) ?_ | with_reducible refine bi_sortL (by assumption) ?_ | with_reducible refine bi_lenL (by assumption) ?_ | with_reducible refine ex_int ?_ | with_reducible refine ex_bool ?_ | with_reducible refine mt1 ?_ | with_reducible refine mt2 ?_ | with_reducible refine mt3 ?_ | with_reducible refine mt4 ?_ | with_reducible refine mt5 ?_ | with_reducible refine mt6 ?_ | with_reducible refine mt7 ?_ | with_reducible refine mt8 ?_ | with_reducible refine mt9 ?_ | with_reducible refine mt10 ?_ | with_reducible refine mt11 ?_ | with_reducible refine mt12 ?_ | with_reducible refine mt13 ?_ | with_reducible refine mt14 ?_ | with_reducible refine mt15 ?_ | with_reducible refine mt16 ?_ | with_reducible refine le1000 rfl ?_ | fail)))
/-! settle -/
def last1 (t : Tab) (l : Option Int) : Option Int := if inT t l then l else none
def pick (t : Tab) (gone : Int) : Int := ((keys t).filter fun k => decide (k > gone)).headD ((keys t).getLastD 0)
def numAt (t : Tab) (c : Int) : Nat := (tget t c).getD 0
def settle (i : Nat) (w : WS) : WS :=
  if inT (w.tab (tb i)) (w.cur i) then (w.sl i (last1 (w.tab (tb i)) (w.last i))).sl i (if last1 (w.tab (tb i)) (w.last i) = w.cur i then none else last1 (w.tab (tb i)) (w.last i))
  else if w.tab (tb i) = [] then (w.sc i none).sl i none
  else
    let c := (last1 (w.tab (tb i)) (w.last i)).getD (pick (w.tab (tb i)) ((w.cur i).getD (-1)))
    ((w.sc i (some c)).sl i none).see (numAt (w.tab (tb i)) c)

section
variable {st : St} {h n : Nat} {R L : WS} {i : Nat}
theorem indexes_ok (I : Inv true st h n R L) (hi : i < 3) {k : Nat} {Q : V → St → Prop} (q : Q (.list ((keys (R.tab (tb i))).map .int)) st) : W2 (callF P (ev P (k + 6)) 108 [.obj 3 i] st) Q := by
  refine C_fn (l := [(26, .obj 3 i)]) rfl rfl ?_
  dsimp only [N108]
  walk_at "mux_r"
  exact q
theorem X_cut {r : Rec} {x : PS} {xs : List PS} {l l2 : Loc} {s : St} {Q : Fl → Loc → St → Prop} {J : St → Prop} (h : W3 (r.S x l s) fun f l' s' => f = .next ∧ l' = l2 ∧ J s') (k : ∀ s', J s' → W3 (exB r xs l2 s') Q) : W3 (exB r (x :: xs) l s) Q :=
  X_cons (h.imp fun f l' s' ⟨a, b, c⟩ => by subst a; subst b; exact k s' c)
theorem upf_self {α : Type} {f : Nat → α} {i : Nat} {v : α} (h : f i = v) : upf f i v = f := by
  funext j
  unfold upf
  split
  · rename_i q; rw [q, h]
  · rfl
theorem sl_self {w : WS} {i : Nat} {c : Option Int} (h : w.last i = c) : w.sl i c = w := by unfold WS.sl; rw [upf_self h]
theorem sc_self {w : WS} {i : Nat} {c : Option Int} (h : w.cur i = c) : w.sc i c = w := by unfold WS.sc; rw [upf_self h]
theorem inT_none {t : Tab} : inT t none = false := rfl
theorem last1_none {t : Tab} : last1 t none = none := rfl

theorem pick_in {t : Tab} (hs : Srt t) (hn : t ≠ []) (g : Int) : pick t g ∈ t.map (·.1) := by
  unfold pick
  have hk : keys t ≠ [] := fun e => hn (keys_nil.mp e)
  have h1 : (keys t).getLastD 0 ∈ keys t := by
    rw [List.getLastD_eq_getLast?, List.getLast?_eq_some_getLast hk]
    exact List.getLast_mem hk
  cases e : (keys t).filter fun k => decide (k > g) with
  | nil => exact h1
  | cons a r =>
    have : a ∈ (keys t).filter fun k => decide (k > g) := by rw [e]; exact .head _
    exact (List.mem_filter.mp this).1
theorem choice_in {t : Tab} (hs : Srt t) (hn : t ≠ []) (g : Int) (l : Option Int) : tget t ((last1 t l).getD (pick t g)) = some (numAt t ((last1 t l).getD (pick t g))) := by
  have : (tget t ((last1 t l).getD (pick t g))).isSome = true := by
    cases e : last1 t l with
    | none => exact (tget_isSome hs).mpr (pick_in hs hn g)
    | some c =>
      unfold last1 at e
      split at e
      · rename_i q; rw [e] at q; exact q
      · cases e
  obtain ⟨m, hm⟩ := Option.isSome_iff_exists.mp this
  unfold numAt
  rw [hm]; rfl
theorem settle_real (I : Inv true st h n R L) (hi : i < 3) {k : Nat} {Q : V → St → Prop} (q : ∀ st', Inv true st' h n (settle i R) L → Q .none st') : W2 (callF P (ev P (k + 16)) 116 [.obj 3 i] st) Q := by
  refine C_fn (l := [(26, .obj 3 i)]) rfl rfl ?_
  dsimp only [N116]
  refine X_cut (l2 := [(26, .obj 3 i)]) (J := fun st' => Inv true st' h n (R.sl i (last1 (R.tab (tb i)) (R.last i))) L) (S_ite (B_and ?_)) fun s1 I1 => ?_
  · walk_at "mux_r"
    refine ⟨fun h1 => ⟨nofun, fun _ => ?_⟩, fun h1 => ?_⟩
    · walk_at "mux_r"
      refine ⟨rfl, rfl, ?_⟩
      have h2 : R.last i = none := by cases e : R.last i <;> simp_all
      rw [h2, last1_none, sl_self h2]; exact I
    · walk_at "mux_r"
      refine ⟨fun h2 => ?_, fun h2 => ?_⟩
      · walk_at "mux_r"
        refine set_last I hi (c := none) fun s2 I2 => ?_
        walk_at "mux_r"
        refine ⟨rfl, rfl, ?_⟩
        have h3 : last1 (R.tab (tb i)) (R.last i) = none := by unfold last1; rw [if_neg (by simpa using h2)]
        rw [h3]; exact I2
      · walk_at "mux_r"
        refine ⟨rfl, rfl, ?_⟩
        have h3 : last1 (R.tab (tb i)) (R.last i) = R.last i := by unfold last1; rw [if_pos (by simpa using h2)]
        rw [h3, sl_self rfl]; exact I
  have e1 : (R.sl i (last1 (R.tab (tb i)) (R.last i))).last i = last1 (R.tab (tb i)) (R.last i) := upf_same _ _ _
  refine X_cons (S_ite ?_)
  walk_at "mux_r"
  refine ⟨fun hc => ?_, fun hc => ?_⟩
  · refine X_cons (S_ite ?_)
    walk_at "mux_r"
    rw [e1]
    refine ⟨fun h2 => ?_, fun h2 => ?_⟩
    · walk_at "mux_r"
      refine set_last I1 hi (c := none) fun s2 I2 => ?_
      walk_at "mux_r"
      refine q s2 ?_
      have h3 : inT (R.tab (tb i)) (R.cur i) = true := hc
      have h4 : last1 (R.tab (tb i)) (R.last i) = R.cur i := of_decide_eq_true h2
      unfold settle; rw [if_pos h3, if_pos h4]; exact I2
    · walk_at "mux_r"
      refine q s1 ?_
      have h3 : inT (R.tab (tb i)) (R.cur i) = true := hc
      have h4 : ¬ last1 (R.tab (tb i)) (R.last i) = R.cur i := of_decide_eq_false h2
      unfold settle; rw [if_pos h3, if_neg h4, sl_self e1]; exact I1
  · walk_at "mux_r"
    refine W2.to (v := .int ((R.cur i).getD (-1))) (s := s1) (E_ite ?_) ?_
    · walk_at "mux_r"
      refine ⟨fun h2 => ?_, fun h2 => ?_⟩
      · have h3 : R.cur i = none := by cases e : R.cur i <;> simp_all [WS.sl]
        walk_at "mux_r"
        rw [h3]; exact ⟨rfl, rfl⟩
      · have h3 : ∃ c, R.cur i = some c := by cases e : R.cur i <;> simp_all [WS.sl]
        obtain ⟨c, h3⟩ := h3
        walk_at "mux_r"
        show _ = _ ∧ _
        rw [h3]; exact ⟨congrArg oV h3, rfl⟩
    · walk_at "mux_r"
      refine indexes_ok I1 hi ?_
      walk_at "mux_r"
      refine set_cur I1 hi (c := none) fun s2 I2 => ?_
      walk_at "mux_r"
      have h3 : inT (R.tab (tb i)) (R.cur i) = false := hc
      refine S_ite (B_ne_ml ?_)
      walk_at "mux_r"
      refine ⟨_, rfl, ?_⟩
      have I3 := I2.newMl []
      revert I3
      generalize { s2 with mls := s2.mls ++ [[]] } = s3
      intro I3
      refine ⟨fun h4 => ?_, fun h4 => ?_⟩
      · walk_at "mux_r"
        have ht : R.tab (tb i) ≠ [] := by
          intro e
          rw [show (R.sl i (last1 (R.tab (tb i)) (R.last i))).tab (tb i) = R.tab (tb i) from rfl, e] at h4
          cases h4
        have hk : (keys (R.tab (tb i))).length ≤ 1000 := by rw [keys_len]; have := (I.tR (tb i) (tb_lt i)).len; omega
        refine E_filter (fun k => decide (k > (R.cur i).getD (-1))) ?_
        walk_at "mux_r"
        refine ⟨_, rfl, hk, fun k hk => ?_, ?_⟩
        · walk_at "mux_r"
          exact ⟨rfl, rfl⟩
        walk_at "mux_r"
        refine W2.via (.int (pick (R.tab (tb i)) ((R.cur i).getD (-1)))) (fun s' => Inv true s' h n ((R.sl i (last1 (R.tab (tb i)) (R.last i))).sc i none) L) (E_ite (B_ne_ml ?_)) fun s4 I4 => ?_
        · walk_at "mux_r"
          refine ⟨_, rfl, ?_⟩
          have I4 := I3.newMl []
          refine ⟨fun h5 => ?_, fun h5 => ?_⟩
          · walk_at "mux_i"
            refine W1.of (at_head ?_ ((keys (R.tab (tb i))).getLastD 0)) ⟨rfl, I4⟩
            intro e
            rw [e] at h5; cases h5
          · walk_at "mux_i"
            refine W1.of (at_last ?_ 0) ⟨?_, I4⟩
            · exact fun e => ht (keys_nil.mp e)
            · have h6 : ((keys (R.tab (tb i))).filter fun k => decide (k > (R.cur i).getD (-1))) = [] := by
                have : (!((keys (R.tab (tb i))).filter fun k => decide (k > (R.cur i).getD (-1))).isEmpty) = false := h5
                simpa using this
              unfold pick
              rw [h6]; rfl
        walk_at "mux_r"
        refine W2.via (oV (some ((last1 (R.tab (tb i)) (R.last i)).getD (pick (R.tab (tb i)) ((R.cur i).getD (-1)))))) (fun s' => Inv true s' h n ((R.sl i (last1 (R.tab (tb i)) (R.last i))).sc i none) L) (E_ite ?_) fun s5 I5 => ?_
        · walk_at "mux_r"
          have e2 : ((R.sl i (last1 (R.tab (tb i)) (R.last i))).sc i none).last i = last1 (R.tab (tb i)) (R.last i) := e1
          rw [e2]
          refine ⟨fun h5 => ?_, fun h5 => ?_⟩
          · walk_at "mux_r"
            have h6 := Option.isNone_iff_eq_none.mp h5
            exact ⟨by rw [h6]; rfl, I4⟩
          · walk_at "mux_r"
            rw [e2]
            refine ⟨?_, I4⟩
            cases h6 : last1 (R.tab (tb i)) (R.last i) with
            | none => rw [h6] at h5; cases h5
            | some c => rfl
        walk_at "mux_r"
        refine set_cur I5 hi fun s6 I6 => ?_
        walk_at "mux_r"
        have e3 : ∀ (w : WS) c, (w.sc i c).cur i = c := fun w c => upf_same _ _ _
        rw [e3]
        have h5 := choice_in (I.tR _ (tb_lt i)).srt ht ((R.cur i).getD (-1)) (R.last i)
        have h6 := (I.tR _ (tb_lt i)).lt h5
        refine w_getR I6 h5 ?_
        walk_at "mux_r"
        refine seen_ok I6 h6 fun s7 I7 => ?_
        walk_at "mux_r"
        refine set_last I7 hi (c := none) fun s8 I8 => ?_
        walk_at "mux_r"
        refine q s8 (I8.to ?_)
        unfold settle
        rw [if_neg (by rw [h3]; exact nofun), if_neg ht]
        simp only [WS.sl, WS.sc, WS.see, WS.sf, upf_upf]
      · walk_at "mux_r"
        refine set_last I3 hi (c := none) fun s8 I8 => ?_
        walk_at "mux_r"
        have ht : R.tab (tb i) = [] := by
          have : (!(keys (R.tab (tb i))).isEmpty) = false := h4
          exact keys_nil.mp (by simpa using this)
        refine q s8 (I8.to ?_)
        unfold settle
        rw [if_neg (by rw [h3]; exact nofun), if_pos ht]
        simp only [WS.sl, WS.sc, WS.see, WS.sf, upf_upf]
theorem B_empty {l : Loc} {n' : Nat} {e : PE} {s : St} {Q : Bool → St → Prop} (h : W2 ((ev P (n' + 1)).E e l s) fun v s1 => v = .dict (tb i) ∧ Inv true s1 h n R L ∧ ∀ s', Inv true s' h n R L → Q (L.tab (tb i)).isEmpty s') : W2 ((ev P (n' + 2)).B (.cmp .eq e .dict0) l s) Q := by
  obtain ⟨v, s1, h1, rfl, I1, q⟩ := h
  refine B_cmp ⟨_, s1, h1, E_dict0 (W1.of ?_ (q _ (I1.newDict [])))⟩
  exact ((I1.newDict []).dL _ (tb_lt i)).isempty (I1.tL _ (tb_lt i)) (by show (s1.dicts ++ [[]])[s1.dicts.length]? = _; simp)
theorem settle_law (I : Inv true st h n R L) (hi : i < 3) {k : Nat} {Q : V → St → Prop} (q : ∀ st', Inv true st' h n R (settle i L) → Q .none st') : W2 (callF P (ev P (k + 16)) 10 [.sd 0, .int i] st) Q := by
  refine C_fn (l := [(60, .sd 0), (53, .int i)]) rfl rfl ?_
  dsimp only [N10]
  walk_at "mux_r"
  refine S_cut (fun st' => Inv true st' h n R (L.sl i (last1 (L.tab (tb i)) (L.last i)))) (S_ite ?_) fun s1 I1 => ?_
  · walk_at "mux_r"
    refine ⟨fun h2 => ?_, fun h2 => ?_⟩
    · walk_at "mux_r"
      refine set_rlast I hi (c := none) fun s2 I2 => ?_
      walk_at "mux_r"
      refine ⟨rfl, rfl, ?_⟩
      have h3 : last1 (L.tab (tb i)) (L.last i) = none := by unfold last1; rw [if_neg (by simpa using h2)]
      rw [h3]; exact I2
    · walk_at "mux_r"
      refine ⟨rfl, rfl, ?_⟩
      have h3 : last1 (L.tab (tb i)) (L.last i) = L.last i := by unfold last1; rw [if_pos (by simpa using h2)]
      rw [h3, sl_self rfl]; exact I
  have e1 : (L.sl i (last1 (L.tab (tb i)) (L.last i))).last i = last1 (L.tab (tb i)) (L.last i) := upf_same _ _ _
  walk_at "mux_r"
  refine S_ite ?_
  walk_at "mux_r"
  refine ⟨fun hc => ?_, fun hc => ?_⟩
  · walk_at "mux_r"
    have h3 : inT (L.tab (tb i)) (L.cur i) = true := hc
    refine W2.via (oV (if last1 (L.tab (tb i)) (L.last i) = L.cur i then none else last1 (L.tab (tb i)) (L.last i))) (fun s' => Inv true s' h n R (L.sl i (last1 (L.tab (tb i)) (L.last i)))) (E_ite ?_) fun s5 I5 => ?_
    · walk_at "mux_r"
      rw [e1]
      refine ⟨fun h2 => ?_, fun h2 => ?_⟩
      · walk_at "mux_r"
        have h4 : last1 (L.tab (tb i)) (L.last i) = L.cur i := of_decide_eq_true h2
        rw [if_pos h4]; exact ⟨rfl, I1⟩
      · walk_at "mux_r"
        have h4 : ¬ last1 (L.tab (tb i)) (L.last i) = L.cur i := of_decide_eq_false h2
        rw [if_neg h4, e1]; exact ⟨rfl, I1⟩
    · walk_at "mux_r"
      refine set_rlast I5 hi fun s2 I2 => ?_
      walk_at "mux_r"
      refine q s2 (I2.to2 ?_)
      unfold settle
      rw [if_pos h3]
  · have h3 : inT (L.tab (tb i)) (L.cur i) = false := hc
    walk_at "mux_r"
    refine S_ite (B_empty (i := i) (R := R) (L := L.sl i (last1 (L.tab (tb i)) (L.last i))) (h := h) (n := n) ?_)
    walk_at "mux_r"
    refine ⟨rfl, I1, fun s2 I2 => ⟨fun h2 => ?_, fun h2 => ?_⟩⟩
    · walk_at "mux_r"
      refine set_rcur I2 hi (c := none) fun s3 I3 => ?_
      walk_at "mux_r"
      refine set_rlast I3 hi (c := none) fun s4 I4 => ?_
      walk_at "mux_r"
      have ht : L.tab (tb i) = [] := by
        have : (L.tab (tb i)).isEmpty = true := h2
        simpa using this
      refine q s4 (I4.to2 ?_)
      unfold settle
      rw [if_neg (by rw [h3]; exact nofun), if_pos ht]
      simp only [WS.sl, WS.sc, upf_upf]
    · have ht : L.tab (tb i) ≠ [] := by
        intro e
        rw [show (L.sl i (last1 (L.tab (tb i)) (L.last i))).tab (tb i) = L.tab (tb i) from rfl, e] at h2
        cases h2
      have hk : (keys (L.tab (tb i))).length ≤ 1000 := by rw [keys_len]; have := (I.tL (tb i) (tb_lt i)).len; omega
      walk_at "mux_r"
      refine W2.to (v := .int ((L.cur i).getD (-1))) (s := s2) (E_ite ?_) ?_
      · walk_at "mux_r"
        refine ⟨fun h2 => ?_, fun h2 => ?_⟩
        · have h3 : L.cur i = none := by cases e : L.cur i <;> simp_all [WS.sl]
          walk_at "mux_r"
          rw [h3]; exact ⟨rfl, rfl⟩
        · have h3 : ∃ c, L.cur i = some c := by cases e : L.cur i <;> simp_all [WS.sl]
          obtain ⟨c, h3⟩ := h3
          walk_at "mux_r"
          show _ = _ ∧ _
          rw [h3]; exact ⟨congrArg oV h3, rfl⟩
      walk_at "mux_r"
      refine E_filter (fun k => decide (k > (L.cur i).getD (-1))) ?_
      walk_at "mux_r"
      refine ⟨_, rfl, hk, fun k hk => ?_, ?_⟩
      · walk_at "mux_r"
        exact ⟨rfl, rfl⟩
      walk_at "mux_r"
      refine W2.of ((I2.dL _ (tb_lt i)).max (I2.tL _ (tb_lt i)) ht 0) ?_
      walk_at "mux_r"
      have hk2 : ((keys (L.tab (tb i))).filter fun k => decide (k > (L.cur i).getD (-1))).length ≤ 50 := Nat.le_trans (List.length_filter_le ..) (by rw [keys_len]; exact (I.tL _ (tb_lt i)).len)
      refine W1.of (add_int (b := [(keys (L.tab (tb i))).getLastD 0]) (by
        show ((keys (L.tab (tb i))).filter fun k => decide (k > (L.cur i).getD (-1))).length + 1 ≤ 1000
        omega)) ?_
      walk_at "mux_r"
      refine W2.via (oV (some ((last1 (L.tab (tb i)) (L.last i)).getD (pick (L.tab (tb i)) ((L.cur i).getD (-1)))))) (fun s' => Inv true s' h n R (L.sl i (last1 (L.tab (tb i)) (L.last i)))) (E_ite ?_) fun s5 I5 => ?_
      · walk_at "mux_r"
        rw [e1]
        refine ⟨fun h5 => ?_, fun h5 => ?_⟩
        · walk_at "mux_i"
          refine W1.of (at_head (by simp) 0) ⟨?_, I2⟩
          have h6 := Option.isNone_iff_eq_none.mp h5
          rw [h6]
          show V.int _ = V.int _
          congr 1
          show _ = pick (L.tab (tb i)) ((L.cur i).getD (-1))
          unfold pick
          show ((((keys (L.tab (tb i))).filter fun k => decide (k > (L.cur i).getD (-1))) ++ _).headD 0) = _
          cases (keys (L.tab (tb i))).filter fun k => decide (k > (L.cur i).getD (-1)) <;> rfl
        · walk_at "mux_r"
          rw [e1]
          refine ⟨?_, I2⟩
          cases h6 : last1 (L.tab (tb i)) (L.last i) with
          | none => rw [h6] at h5; cases h5
          | some c => rfl
      walk_at "mux_r"
      refine set_rcur I5 hi fun s6 I6 => ?_
      walk_at "mux_r"
      refine set_rlast I6 hi (c := none) fun s7 I7 => ?_
      walk_at "mux_r"
      have e3 : ∀ (w : WS) c, ((w.sc i c).sl i none).cur i = c := fun w c => upf_same _ _ _
      rw [e3]
      have h5 := choice_in (I.tL _ (tb_lt i)).srt ht ((L.cur i).getD (-1)) (L.last i)
      have h6 := (I.tL _ (tb_lt i)).lt h5
      refine w_getL I7 h5 ?_
      refine set_noted I7 h6 fun s8 I8 => ?_
      walk_at "mux_r"
      refine q s8 (I8.to2 ?_)
      unfold settle
      rw [if_neg (by rw [h3]; exact nofun), if_neg ht]
      simp only [WS.sl, WS.sc, WS.see, WS.sf, upf_upf]
end
theorem settle_tab (i : Nat) (w : WS) : (settle i w).tab = w.tab := by
  unfold settle
  split
  · rfl
  · split <;> rfl
def show2 (i : Nat) (c : Int) (w : WS) : WS := if some c = w.cur i then w else (w.sl i (w.cur i)).sc i (some c)
def shown (i : Nat) (c : Int) (w : WS) : WS := if inT (w.tab (tb i)) (some c) then (show2 i c (settle i w)).see (numAt (w.tab (tb i)) c) else w
theorem show2_tab (i : Nat) (c : Int) (w : WS) : (show2 i c w).tab = w.tab := by unfold show2; split <;> rfl
theorem numAt_get {t : Tab} {c : Int} (h : inT t (some c) = true) : tget t c = some (numAt t c) := by
  obtain ⟨m, hm⟩ := inT_some h
  unfold numAt; rw [hm]; rfl

section
variable {st : St} {h n : Nat} {R L : WS} {i : Nat} {c : Int}
theorem shown_real (I : Inv true st h n R L) (hi : i < 3) {k : Nat} {Q : V → St → Prop} (q : ∀ st', Inv true st' h n (shown i c R) L → Q (.bool (inT (R.tab (tb i)) (some c))) st') : W2 (callF P (ev P (k + 20)) 113 [.obj 3 i, .int c] st) Q := by
  refine C_fn (l := [(26, .obj 3 i), (31, .int c)]) rfl rfl ?_
  dsimp only [N113]
  walk_at "mux_r"
  refine S_ite ?_
  walk_at "mux_r"
  refine ⟨fun h1 => ?_, fun h1 => ?_⟩
  · walk_at "mux_r"
    have h2 : inT (R.tab (tb i)) (some c) = false := by simpa using h1
    have := q st
    rw [h2] at this
    refine this (I.to ?_)
    unfold shown
    rw [if_neg (by rw [h2]; exact nofun)]
  · have h2 : inT (R.tab (tb i)) (some c) = true := by simpa using h1
    walk_at "mux_r"
    refine settle_real I hi fun s1 I1 => ?_
    walk_at "mux_r"
    refine S_cut (fun s' => Inv true s' h n (show2 i c (settle i R)) L) (S_ite ?_) fun s2 I2 => ?_
    · walk_at "mux_r"
      refine ⟨fun h3 => ?_, fun h3 => ?_⟩
      · walk_at "mux_r"
        refine set_last I1 hi fun s3 I3 => ?_
        walk_at "mux_r"
        refine set_cur I3 hi (c := some c) fun s4 I4 => ?_
        walk_at "mux_r"
        refine ⟨rfl, rfl, I4.to ?_⟩
        unfold show2
        rw [if_neg (by simpa using h3)]
      · walk_at "mux_r"
        refine ⟨rfl, rfl, I1.to ?_⟩
        unfold show2
        rw [if_pos (by simpa using h3)]
    have e : (show2 i c (settle i R)).tab = R.tab := (show2_tab ..).trans (settle_tab ..)
    have h4 := numAt_get h2
    walk_at "mux_r"
    refine w_getR I2 (by rw [e]; exact h4) ?_
    walk_at "mux_r"
    refine seen_ok I2 ((I.tR _ (tb_lt i)).lt h4) fun s3 I3 => ?_
    walk_at "mux_r"
    have := q s3
    rw [h2] at this
    refine this (I3.to ?_)
    unfold shown
    rw [if_pos h2]
theorem shown_law (I : Inv true st h n R L) (hi : i < 3) {k : Nat} {Q : V → St → Prop} (q : ∀ st', Inv true st' h n R (shown i c L) → Q (.bool (inT (L.tab (tb i)) (some c))) st') : W2 (callF P (ev P (k + 20)) 11 [.sd 0, .int i, .int c] st) Q := by
  refine C_fn (l := [(60, .sd 0), (53, .int i), (31, .int c)]) rfl rfl ?_
  dsimp only [N11]
  walk_at "mux_r"
  refine S_ite ?_
  walk_at "mux_r"
  refine ⟨fun h1 => ?_, fun h1 => ?_⟩
  · walk_at "mux_r"
    have h2 : inT (L.tab (tb i)) (some c) = false := by simpa using h1
    have := q st
    rw [h2] at this
    refine this (I.to2 ?_)
    unfold shown
    rw [if_neg (by rw [h2]; exact nofun)]
  · have h2 : inT (L.tab (tb i)) (some c) = true := by simpa using h1
    walk_at "mux_r"
    refine settle_law I hi fun s1 I1 => ?_
    walk_at "mux_r"
    refine S_cut (fun s' => Inv true s' h n R (show2 i c (settle i L))) (S_ite ?_) fun s2 I2 => ?_
    · walk_at "mux_r"
      refine ⟨fun h3 => ?_, fun h3 => ?_⟩
      · walk_at "mux_r"
        refine set_rcur I1 hi (c := some c) fun s3 I3 => ?_
        walk_at "mux_r"
        refine set_rlast I3 hi fun s4 I4 => ?_
        walk_at "mux_r"
        refine ⟨rfl, rfl, I4.to2 ?_⟩
        unfold show2
        rw [if_neg (by simpa using h3)]; rfl
      · walk_at "mux_r"
        refine ⟨rfl, rfl, I1.to2 ?_⟩
        unfold show2
        rw [if_pos (by simpa using h3)]
    have e : (show2 i c (settle i L)).tab = L.tab := (show2_tab ..).trans (settle_tab ..)
    have h4 := numAt_get h2
    walk_at "mux_r"
    refine w_getL I2 (by rw [e]; exact h4) ?_
    refine set_noted I2 ((I.tL _ (tb_lt i)).lt h4) fun s3 I3 => ?_
    walk_at "mux_r"
    have := q s3
    rw [h2] at this
    refine this (I3.to2 ?_)
    unfold shown
    rw [if_pos h2]; rfl
theorem last_real (I : Inv true st h n R L) (hi : i < 3) {k : Nat} {Q : V → St → Prop}
    (q1 : ∀ st', Inv true st' h n (settle i R) L → (settle i R).last i = none → Q (.bool false) st')
    (q2 : ∀ st' c, (settle i R).last i = some c → Inv true st' h n (shown i c (settle i R)) L → Q (.bool (inT (R.tab (tb i)) (some c))) st') : W2 (callF P (ev P (k + 24)) 114 [.obj 3 i] st) Q := by
  refine C_fn (l := [(26, .obj 3 i)]) rfl rfl ?_
  dsimp only [N114]
  walk_at "mux_r"
  refine settle_real I hi fun s1 I1 => ?_
  walk_at "mux_r"
  refine E_and ?_
  walk_at "mux_r"
  refine ⟨fun h1 => ?_, fun h1 => ?_⟩
  · exact q1 _ I1 (by simpa using h1)
  · cases e : (settle i R).last i with
    | none => rw [e] at h1; cases h1
    | some c =>
      walk_at "mux_r"
      rw [e]
      refine shown_real I1 hi fun s2 I2 => ?_
      rw [settle_tab]
      exact q2 s2 c e I2
theorem window_real (I : Inv true st h n R L) (hi : i < 3) {k : Nat} {Q : V → St → Prop}
    (q1 : ∀ st', Inv true st' h n (settle i R) L → (settle i R).cur i = none → Q .none st')
    (q2 : ∀ st' c m, (settle i R).cur i = some c → tget (R.tab (tb i)) c = some m → Inv true st' h n (settle i R) L → Q (.obj 2 m) st')
    (hc : ∀ c, (settle i R).cur i = some c → ∃ m, tget (R.tab (tb i)) c = some m) : W2 (callF P (ev P (k + 24)) 109 [.obj 3 i] st) Q := by
  refine C_fn (l := [(26, .obj 3 i)]) rfl rfl ?_
  dsimp only [N109]
  walk_at "mux_r"
  refine settle_real I hi fun s1 I1 => ?_
  walk_at "mux_r"
  refine E_ite ?_
  walk_at "mux_r"
  cases e : (settle i R).cur i with
  | none =>
    refine ⟨fun h1 => ?_, nofun⟩
    walk_at "mux_r"
    exact q1 _ I1 e
  | some c =>
    refine ⟨nofun, fun h1 => ?_⟩
    obtain ⟨m, hm⟩ := hc c e
    walk_at "mux_r"
    rw [e]
    refine w_getR I1 (by rw [settle_tab]; exact hm) ?_
    walk_at "mux_r"
    exact q2 _ c m e hm I1
end
/-! the first free place -/
def freeFrom (t : Tab) : Nat → Int → Int
  | 0, s => s
  | f + 1, s => if inT t (some s) then freeFrom t f (s + 1) else s
def free (t : Tab) (s : Int) : Int := freeFrom t t.length s
def ge (t : Tab) (s : Int) : Nat := ((keys t).filter fun k => decide (s ≤ k)).length
theorem ge_le (t : Tab) (s : Int) : ge t s ≤ t.length := by unfold ge; rw [← keys_len]; exact List.length_filter_le ..
theorem ge_lt {t : Tab} (hs : Srt t) {s : Int} (h : inT t (some s) = true) : ge t (s + 1) < ge t s := by
  have hm : s ∈ keys t := (tget_isSome hs).mp h
  unfold ge
  have key : ∀ l : List Int, (l.filter fun k => decide (s + 1 ≤ k)).length ≤ (l.filter fun k => decide (s ≤ k)).length := fun l => by
    induction l with
    | nil => exact Nat.le_refl _
    | cons a r ih =>
      rw [List.filter_cons, List.filter_cons]
      by_cases q : s + 1 ≤ a
      · rw [if_pos (by simpa using q), if_pos (by simp; omega)]; simpa using ih
      · rw [if_neg (by simpa using q)]
        split
        · rw [List.length_cons]; omega
        · exact ih
  generalize keys t = l at hm
  induction l with
  | nil => cases hm
  | cons a r ih =>
    rw [List.filter_cons, List.filter_cons]
    by_cases q : a = s
    · subst q
      rw [if_neg (by simp; omega), if_pos (by simp), List.length_cons]
      exact Nat.lt_succ_of_le (key r)
    · have hm' : s ∈ r := by
        rcases List.mem_cons.mp hm with e | e
        · exact absurd e.symm q
        · exact e
      have := ih hm'
      by_cases q2 : s + 1 ≤ a
      · rw [if_pos (by simpa using q2), if_pos (by simp; omega), List.length_cons, List.length_cons]; omega
      · rw [if_neg (by simpa using q2), if_neg (by simp; omega)]; exact this
theorem ge_pos {t : Tab} (hs : Srt t) {s : Int} (h : inT t (some s) = true) : 0 < ge t s := Nat.lt_of_le_of_lt (Nat.zero_le _) (ge_lt hs h)
theorem freeFrom_out {t : Tab} (hs : Srt t) : ∀ (f : Nat) (s : Int), ge t s ≤ f → inT t (some (freeFrom t f s)) = false
  | 0, s, h => by
    cases e : inT t (some s) with
    | false => exact e
    | true => have := ge_pos hs e; omega
  | f + 1, s, h => by
    unfold freeFrom
    cases e : inT t (some s) with
    | false => exact e
    | true => rw [if_pos rfl]; exact freeFrom_out hs f (s + 1) (by have := ge_lt hs e; omega)
theorem freeFrom_bd {t : Tab} : ∀ (f : Nat) (s : Int), s ≤ freeFrom t f s ∧ freeFrom t f s ≤ s + f
  | 0, s => by unfold freeFrom; omega
  | f + 1, s => by
    unfold freeFrom
    split
    · have := freeFrom_bd (t := t) f (s + 1); omega
    · omega
theorem free_out {t : Tab} (hs : Srt t) (s : Int) : inT t (some (free t s)) = false := freeFrom_out hs _ _ (ge_le t s)
theorem free_filter {t : Tab} (hs : Srt t) : ∀ (f : Nat) (s d : Int), ge t s ≤ f → (((List.range (f + 1)).map fun (k : Nat) => s + (k : Int)).filter fun k => !inT t (some k)).headD d = freeFrom t f s
  | 0, s, d, h => by
    have h1 := freeFrom_out hs 0 s h
    unfold freeFrom at h1 ⊢
    simp [h1]
  | f + 1, s, d, h => by
    rw [List.range_succ_eq_map, List.map_cons, List.filter_cons]
    unfold freeFrom
    cases e : inT t (some s) with
    | false => simp [e]
    | true =>
      rw [if_neg (by simp [e]), if_pos rfl, ← free_filter hs f (s + 1) d (by have := ge_lt hs e; omega)]
      congr 2
      rw [List.map_map]
      refine List.map_congr_left fun a _ => ?_
      show s + ((a + 1 : Nat) : Int) = s + 1 + a
      omega
theorem free_ne {t : Tab} (hs : Srt t) : ∀ (f : Nat) (s : Int), ge t s ≤ f → (((List.range (f + 1)).map fun (k : Nat) => s + (k : Int)).filter fun k => !inT t (some k)) ≠ [] := fun f s h e => by
  have h1 := free_filter hs f s (s - 1) h
  rw [e] at h1
  have := (freeFrom_bd (t := t) f s).1
  have h2 : s - 1 = freeFrom t f s := h1
  omega

section
variable {st : St} {h n : Nat} {R L : WS} {i : Nat} {s : Int}
theorem while_free (I : Inv true st h n R L) (hi : i < 3) {k : Nat} {Q : Fl → Loc → St → Prop} : ∀ (f : Nat) (s : Int), ge (R.tab (tb i)) s ≤ f → Q .next [(26, .obj 3 i), (33, .int (freeFrom (R.tab (tb i)) f s))] st →
    W3 ((ev P (k + f + 4)).S (.while (.cmp .isin (.var 33) (.attr (.var 26) 23)) [.aug 33 .add (.const (.int 1))]) [(26, .obj 3 i), (33, .int s)] st) Q
  | 0, s, hf, q => by
    have h1 := freeFrom_out (I.tR _ (tb_lt i)).srt 0 s hf
    refine S_while ?_
    walk_at "mux_r"
    refine ⟨fun h2 => q, fun h2 => ?_⟩
    unfold freeFrom at h1
    rw [h1] at h2; cases h2
  | f + 1, s, hf, q => by
    refine S_while ?_
    walk_at "mux_r"
    refine ⟨fun h2 => ?_, fun h2 => ?_⟩
    · unfold freeFrom at q
      rw [if_neg (by rw [h2]; exact nofun)] at q; exact q
    · refine X_cons (S_aug rfl (E_const ?_))
      walk_at "mux_r"
      refine while_free I hi f (s + 1) (by have := ge_lt (I.tR _ (tb_lt i)).srt h2; omega) ?_
      unfold freeFrom at q
      rw [if_pos h2] at q; exact q
theorem free_real (I : Inv true st h n R L) (hi : i < 3) {k : Nat} {Q : V → St → Prop} (q : Q (.int (free (R.tab (tb i)) s)) st) : W2 (callF P (ev P (k + 60)) 111 [.obj 3 i, .int s] st) Q := by
  refine C_fn (l := [(26, .obj 3 i), (33, .int s)]) rfl rfl ?_
  dsimp only [N111]
  have hl := (I.tR _ (tb_lt i)).len
  refine X_cons ?_
  rw [show k + 60 = (k + (56 - (R.tab (tb i)).length)) + (R.tab (tb i)).length + 4 by omega]
  refine while_free I hi _ s (ge_le _ _) ?_
  walk_at "mux_r"
  exact q
theorem range_ok {a b : Int} {m : Nat} (ha : -1000 ≤ a) (hb : b ≤ 1000) (hm : b = a + m) : rangeS [.int a, .int b] = some (((List.range m).map fun (k : Nat) => a + (k : Int)).map .int) := by
  show (if _ then _ else _) = _
  rw [if_pos (by omega)]
  unfold rangeU
  rw [show (b - a).toNat = m by omega, List.map_map]; rfl
theorem E_filterS {n x : Nat} {src : Src} {c : PE} {l : Loc} {s : St} {Q : V → St → Prop} (p : Int → Bool) (h : W2 (srcS (ev P (n + 1)) src l s) fun it s1 => ∃ ks : List Int, it = .items (ks.map .int) ∧ (∀ k ∈ ks, W2 ((ev P (n + 1)).B c (upd x (.int k) (lrm [x] l)) s1) fun b s' => b = p k ∧ s' = s1) ∧ Q (.list ((ks.filter p).map .int)) s1) :
    W2 ((ev P (n + 2)).E (.comp (.var x) (.var x) src (some c)) l s) Q := by
  obtain ⟨v, s1, h1, ks, rfl, h3, q⟩ := h
  refine E_comp ⟨_, s1, h1, ?_⟩
  refine ⟨_, s1, comp_gen (g := fun v => match v with | .int k => if p k then some (.int k) else none | _ => none) fun v hv => ?_, ?_⟩
  · obtain ⟨k, hk, rfl⟩ := List.mem_map.mp hv
    obtain ⟨b, s', h4, rfl, rfl⟩ := h3 k hk
    have h5 : (ev P (n + 1)).E (.var x) (upd x (.int k) (lrm [x] l)) s' = some (.int k, s') := by
      rw [ev_E]; simp [stepE, lget_upd]
    simp only [compBody, assign]
    rw [show lrm (Tg.vars (.var x)) l = lrm [x] l from by rw [Tg.vars]]
    rw [h4]
    cases p k with
    | false => rfl
    | true => dsimp only; rw [h5]; rfl
  · have : ((ks.map V.int).filterMap fun v => match v with | .int k => if p k then some (V.int k) else none | _ => none) = (ks.filter p).map .int := by
      rw [List.filterMap_map]
      clear h1 h3 q
      induction ks with
      | nil => rfl
      | cons a r ih =>
        rw [List.filterMap_cons, ih]
        cases e : p a <;> simp [List.filter_cons, e]
    rw [this]; exact q
theorem free_law (I : Inv true st h n R L) (hs : -1000 ≤ s ∧ s ≤ 900) {k : Nat} {Q : V → St → Prop} (q : Q (.int (free (L.tab (tb i)) s)) st) : W2 (callF P (ev P (k + 12)) 12 [.dict (tb i), .int s] st) Q := by
  refine C_fn (l := [(62, .dict (tb i)), (33, .int s)]) rfl rfl ?_
  dsimp only [N12]
  have hl := (I.tL _ (tb_lt i)).len
  walk_at "mux_r"
  refine E_filterS (fun k => !inT (L.tab (tb i)) (some k)) ?_
  walk_at "mux_r"
  refine W1.of (range_ok (m := (L.tab (tb i)).length + 1) hs.1 (by omega) (by omega)) ?_
  refine ⟨_, rfl, fun k hk => ?_, ?_⟩
  · walk_at "mux_r"
    exact ⟨rfl, rfl⟩
  walk_at "mux_r"
  refine W1.of (at_head (free_ne (I.tL _ (tb_lt i)).srt _ _ (ge_le _ _)) 0) ?_
  rw [free_filter (I.tL _ (tb_lt i)).srt _ _ _ (ge_le _ _)]
  exact q
end
theorem tset_len (c : Int) (m : Nat) : ∀ t : Tab, (tset c m t).length ≤ t.length + 1
  | [] => Nat.le_refl _
  | (a, b) :: r => by
    unfold tset
    split
    · exact Nat.le_refl _
    · split
      · show r.length + 1 ≤ r.length + 1 + 1; omega
      · have := tset_len c m r
        show (tset c m r).length + 1 ≤ r.length + 1 + 1; omega
theorem TabOk.set {n m : Nat} {c : Int} {t : Tab} (h : TabOk n t) (hm : m < n) (hl : t.length < 50) : TabOk n (tset c m t) :=
  ⟨tset_srt h.srt, by have := tset_len c m t; omega, fun p hp => by
    rcases mem_tset hp with rfl | hp
    · exact hm
    · exact h.num p hp⟩
theorem tdel_len (t : Tab) (c : Int) : (tdel t c).length ≤ t.length := List.length_filter_le ..
theorem TabOk.del {n : Nat} {c : Int} {t : Tab} (h : TabOk n t) : TabOk n (tdel t c) :=
  ⟨tdel_srt h.srt, Nat.le_trans (tdel_len ..) h.len, fun p hp => h.num p (List.mem_filter.mp hp).1⟩
def oO : Option Nat → V
  | none => .none
  | some m => .obj 2 m
def oN : Option Nat → V
  | none => .none
  | some m => .int m

section
variable {full : Bool} {st : St} {h n : Nat} {R L : WS} {i : Nat} {c : Int} {m : Nat}
theorem w_setR (I : Inv full st h n R L) (hm : m < n) (hl : (R.tab (tb i)).length < 50) {Q : St → Prop} (q : ∀ st', Inv full st' h n (R.st (tb i) (tset c m (R.tab (tb i)))) L → Q st') : W1 (setI st (.dict (2 + tb i)) (.int c) (.obj 2 m)) Q := by
  obtain ⟨es, h1, h2⟩ := I.dR _ (tb_lt i)
  have ht := I.tR _ (tb_lt i)
  refine ⟨_, ?_, q _ (I.updR (tb_lt i) (h2.set ht.srt (k := c) (n := m)) (ht.set hm hl))⟩
  show ((st.dicts[2 + tb i]?).bind _) = _
  rw [h1, Option.bind_some, if_pos (by rw [h2.len]; have := ht.len; omega)]; rfl
theorem w_setL (I : Inv full st h n R L) (hm : m < n) (hl : (L.tab (tb i)).length < 50) {Q : St → Prop} (q : ∀ st', Inv full st' h n R (L.st (tb i) (tset c m (L.tab (tb i)))) → Q st') : W1 (setI st (.dict (tb i)) (.int c) (.int m)) Q := by
  obtain ⟨es, h1, h2⟩ := I.dL _ (tb_lt i)
  have ht := I.tL _ (tb_lt i)
  refine ⟨_, ?_, q _ (I.updL (tb_lt i) (h2.set ht.srt (k := c) (n := m)) (ht.set hm hl))⟩
  show ((st.dicts[tb i]?).bind _) = _
  rw [h1, Option.bind_some, if_pos (by rw [h2.len]; have := ht.len; omega)]; rfl
theorem bm_popR (I : Inv full st h n R L) (hm : tget (R.tab (tb i)) c = some m) {Q : V → St → Prop} (q : ∀ st', Inv full st' h n (R.st (tb i) (tdel (R.tab (tb i)) c)) L → Q (.obj 2 m) st') : W2 (bmS st .pop (.dict (2 + tb i)) [.int c]) Q := by
  obtain ⟨es, h1, h2⟩ := I.dR _ (tb_lt i)
  have ht := I.tR _ (tb_lt i)
  refine ⟨_, _, ?_, q _ (I.updR (tb_lt i) (h2.del (k := c)) ht.del)⟩
  show ((st.dicts[2 + tb i]?).bind _) = _
  rw [h1, Option.bind_some, if_pos (by rw [h2.len]; have := ht.len; omega), h2.get ht.srt, hm]; rfl
theorem bm_popL (I : Inv full st h n R L) (hm : tget (L.tab (tb i)) c = some m) {Q : V → St → Prop} (q : ∀ st', Inv full st' h n R (L.st (tb i) (tdel (L.tab (tb i)) c)) → Q (.int m) st') : W2 (bmS st .pop (.dict (tb i)) [.int c]) Q := by
  obtain ⟨es, h1, h2⟩ := I.dL _ (tb_lt i)
  have ht := I.tL _ (tb_lt i)
  refine ⟨_, _, ?_, q _ (I.updL (tb_lt i) (h2.del (k := c)) ht.del)⟩
  show ((st.dicts[tb i]?).bind _) = _
  rw [h1, Option.bind_some, if_pos (by rw [h2.len]; have := ht.len; omega), h2.get ht.srt, hm]; rfl
theorem bm_popR2 (I : Inv full st h n R L) {Q : V → St → Prop} (q : ∀ st', Inv full st' h n (R.st (tb i) (tdel (R.tab (tb i)) c)) L → Q (oO (tget (R.tab (tb i)) c)) st') : W2 (bmS st .pop (.dict (2 + tb i)) [.int c, .none]) Q := by
  obtain ⟨es, h1, h2⟩ := I.dR _ (tb_lt i)
  have ht := I.tR _ (tb_lt i)
  refine ⟨_, _, ?_, q _ (I.updR (tb_lt i) (h2.del (k := c)) ht.del)⟩
  show ((st.dicts[2 + tb i]?).bind _) = _
  rw [h1, Option.bind_some, if_pos (by rw [h2.len]; have := ht.len; omega), h2.get ht.srt]
  cases tget (R.tab (tb i)) c <;> rfl
theorem bm_popL2 (I : Inv full st h n R L) {Q : V → St → Prop} (q : ∀ st', Inv full st' h n R (L.st (tb i) (tdel (L.tab (tb i)) c)) → Q (oN (tget (L.tab (tb i)) c)) st') : W2 (bmS st .pop (.dict (tb i)) [.int c, .none]) Q := by
  obtain ⟨es, h1, h2⟩ := I.dL _ (tb_lt i)
  have ht := I.tL _ (tb_lt i)
  refine ⟨_, _, ?_, q _ (I.updL (tb_lt i) (h2.del (k := c)) ht.del)⟩
  show ((st.dicts[tb i]?).bind _) = _
  rw [h1, Option.bind_some, if_pos (by rw [h2.len]; have := ht.len; omega), h2.get ht.srt]
  cases tget (L.tab (tb i)) c <;> rfl
end

/-! add -/
def place (i : Nat) (w : WS) (g : Option Int) (s : Int) : Int := g.getD (free (w.tab (tb i)) s)
def added (i m : Nat) (g : Option Int) (s : Int) (b : Bool) (w : WS) : WS :=
  if inT (w.tab (tb i)) (some (place i w g s)) then w
  else if b || (w.cur i).isNone then shown i (place i w g s) (w.st (tb i) (tset (place i w g s) m (w.tab (tb i))))
  else w.st (tb i) (tset (place i w g s) m (w.tab (tb i)))
def addedV (i : Nat) (g : Option Int) (s : Int) (w : WS) : Option Int := if inT (w.tab (tb i)) (some (place i w g s)) then none else some (place i w g s)
section
variable {st : St} {h n : Nat} {R L : WS} {i : Nat} {s : Int} {m : Nat} {g : Option Int} {b : Bool}
theorem added_real (I : Inv true st h n R L) (hi : i < 3) (hm : m < n) (hl : (R.tab (tb i)).length < 50) {k : Nat} {Q : V → St → Prop} (q : ∀ st', Inv true st' h n (added i m g s b R) L → Q (oV (addedV i g s R)) st') : W2 (callF P (ev P (k + 70)) 112 [.obj 3 i, .obj 2 m, oV g, .int s, .bool b] st) Q := by
  refine C_fn (l := [(26, .obj 3 i), (32, .obj 2 m), (31, oV g), (33, .int s), (35, .bool b)]) rfl rfl ?_
  dsimp only [N112]
  walk_at "mux_r"
  refine W2.to (v := .int (place i R g s)) (s := st) (E_ite ?_) ?_
  · walk_at "mux_r"
    refine ⟨fun h1 => ?_, fun h1 => ?_⟩
    · walk_at "mux_r"
      refine free_real I hi ⟨?_, rfl⟩
      unfold place; rw [Option.isNone_iff_eq_none.mp h1]; rfl
    · walk_at "mux_r"
      cases g with
      | none => cases h1
      | some c => exact ⟨rfl, rfl⟩
  walk_at "mux_r"
  refine S_ite ?_
  walk_at "mux_r"
  refine ⟨fun h1 => ?_, fun h1 => ?_⟩
  · walk_at "mux_r"
    have := q st
    unfold addedV added at this
    rw [if_pos h1, if_pos h1] at this
    exact this I
  · have h1' : ¬ inT (R.tab (tb i)) (some (place i R g s)) = true := by rw [h1]; exact nofun
    unfold addedV added at q
    rw [if_neg h1', if_neg h1'] at q
    walk_at "mux_r"
    refine w_setR I hm hl fun s1 I1 => ?_
    walk_at "mux_r"
    refine S_cut (fun s' => Inv true s' h n (if b || (R.cur i).isNone then shown i (place i R g s) (R.st (tb i) (tset (place i R g s) m (R.tab (tb i)))) else R.st (tb i) (tset (place i R g s) m (R.tab (tb i)))) L) (S_ite (B_or ?_)) fun s2 I2 => ?_
    · walk_at "mux_r"
      refine ⟨fun h2 => ⟨fun _ => ?_, nofun⟩, fun h2 => ?_⟩
      · walk_at "mux_r"
        refine shown_real I1 hi fun s2 I2 => ?_
        walk_at "mux_r"
        refine ⟨rfl, rfl, I2.to ?_⟩
        rw [h2]; rfl
      · walk_at "mux_r"
        refine ⟨fun h3 => ?_, fun h3 => ?_⟩
        · walk_at "mux_r"
          refine shown_real I1 hi fun s2 I2 => ?_
          walk_at "mux_r"
          refine ⟨rfl, rfl, I2.to ?_⟩
          rw [h2, show (R.cur i).isNone = true from h3]; rfl
        · walk_at "mux_r"
          refine ⟨rfl, rfl, I1.to ?_⟩
          rw [h2, show (R.cur i).isNone = false from h3]; rfl
    · walk_at "mux_r"
      exact q s2 I2
theorem added_law (I : Inv true st h n R L) (hi : i < 3) (hm : m < n) (hl : (L.tab (tb i)).length < 50) (hs : -1000 ≤ s ∧ s ≤ 900) {k : Nat} {Q : V → St → Prop} (q : ∀ st', Inv true st' h n R (added i m g s b L) → Q (oV (addedV i g s L)) st') : W2 (callF P (ev P (k + 70)) 13 [.sd 0, .int i, .int m, oV g, .int s, .bool b] st) Q := by
  refine C_fn (l := [(60, .sd 0), (53, .int i), (7, .int m), (31, oV g), (33, .int s), (35, .bool b)]) rfl rfl ?_
  dsimp only [N13]
  walk_at "mux_r"
  refine W2.to (v := .int (place i L g s)) (s := st) (E_ite ?_) ?_
  · walk_at "mux_r"
    refine ⟨fun h1 => ?_, fun h1 => ?_⟩
    · walk_at "mux_r"
      refine free_law I hs ⟨?_, rfl⟩
      unfold place; rw [Option.isNone_iff_eq_none.mp h1]; rfl
    · walk_at "mux_r"
      cases g with
      | none => cases h1
      | some c => exact ⟨rfl, rfl⟩
  walk_at "mux_r"
  refine S_ite ?_
  walk_at "mux_r"
  refine ⟨fun h1 => ?_, fun h1 => ?_⟩
  · walk_at "mux_r"
    have := q st
    unfold addedV added at this
    rw [if_pos h1, if_pos h1] at this
    exact this I
  · have h1' : ¬ inT (L.tab (tb i)) (some (place i L g s)) = true := by rw [h1]; exact nofun
    unfold addedV added at q
    rw [if_neg h1', if_neg h1'] at q
    walk_at "mux_r"
    refine w_setL I hm hl fun s1 I1 => ?_
    walk_at "mux_r"
    refine S_cut (fun s' => Inv true s' h n R (if b || (L.cur i).isNone then shown i (place i L g s) (L.st (tb i) (tset (place i L g s) m (L.tab (tb i)))) else L.st (tb i) (tset (place i L g s) m (L.tab (tb i))))) (S_ite (B_or ?_)) fun s2 I2 => ?_
    · walk_at "mux_r"
      refine ⟨fun h2 => ⟨fun _ => ?_, nofun⟩, fun h2 => ?_⟩
      · walk_at "mux_r"
        refine shown_law I1 hi fun s2 I2 => ?_
        walk_at "mux_r"
        refine ⟨rfl, rfl, I2.to2 ?_⟩
        rw [h2]; rfl
      · walk_at "mux_r"
        refine ⟨fun h3 => ?_, fun h3 => ?_⟩
        · walk_at "mux_r"
          refine shown_law I1 hi fun s2 I2 => ?_
          walk_at "mux_r"
          refine ⟨rfl, rfl, I2.to2 ?_⟩
          rw [h2, show (L.cur i).isNone = true from h3]; rfl
        · walk_at "mux_r"
          refine ⟨rfl, rfl, I1.to2 ?_⟩
          rw [h2, show (L.cur i).isNone = false from h3]; rfl
    · walk_at "mux_r"
      exact q s2 I2
/-! take -/
def taken (i : Nat) (c : Int) (w : WS) : WS := settle i (w.st (tb i) (tdel (w.tab (tb i)) c))
theorem take_real {c : Int} (I : Inv true st h n R L) (hi : i < 3) {k : Nat} {Q : V → St → Prop} (q : ∀ st', Inv true st' h n (taken i c R) L → Q (oO (tget (R.tab (tb i)) c)) st') : W2 (callF P (ev P (k + 24)) 117 [.obj 3 i, .int c] st) Q := by
  refine C_fn (l := [(26, .obj 3 i), (31, .int c)]) rfl rfl ?_
  dsimp only [N117]
  walk_at "mux_r"
  refine bm_popR2 I fun s1 I1 => ?_
  walk_at "mux_r"
  refine settle_real I1 hi fun s2 I2 => ?_
  walk_at "mux_r"
  exact q s2 I2
end
theorem keys_split {c : Int} : ∀ {l : List Int}, l.Pairwise (· < ·) → c ∈ l → l = (l.filter fun k => decide (k < c)) ++ c :: (l.filter fun k => decide (k > c))
  | [], _, h => by cases h
  | a :: r, hs, h => by
    have h' := List.pairwise_cons.mp hs
    by_cases q : a = c
    · subst q
      rw [List.filter_cons_of_neg (by simp), List.filter_cons_of_neg (by simp)]
      have e1 : (r.filter fun k => decide (k < a)) = [] := List.filter_eq_nil_iff.mpr fun x hx => by have := h'.1 x hx; simp; omega
      have e2 : (r.filter fun k => decide (k > a)) = r := List.filter_eq_self.mpr fun x hx => by have := h'.1 x hx; simp; omega
      rw [e1, e2]; rfl
    · have hm : c ∈ r := by
        rcases List.mem_cons.mp h with e | e
        · exact absurd e.symm q
        · exact e
      have := h'.1 c hm
      rw [List.filter_cons_of_pos (by simpa using this), List.filter_cons_of_neg (by simp; omega), List.cons_append, ← keys_split h'.2 hm]
theorem at_int {ks : List Int} {s : St} {k : Int} {j : Nat} (hk : k = j) (hj : j < 1000) {x : Int} (hx : ks[j]? = some x) : getI s (.list (ks.map .int)) (.int k) = some (.int x) := by
  subst hk
  show at? _ _ = _
  unfold at?
  rw [if_pos (by omega), if_pos (by omega), Int.toNat_natCast, List.getElem?_map, hx]; rfl
theorem rot {A B : List Int} {c x : Int} {j : Nat} {back : Bool} {s : St} (hlen : A.length + B.length + 1 ≤ 1000) (hx : (if back then (B ++ A).reverse else B ++ A)[j]? = some x) :
    getI s (.list ((A ++ c :: B).map .int)) (.int ((if back then (A.length : Int) - (1 + j) else A.length + (1 + j)).fmod ((A ++ c :: B).length : Nat))) = some (.int x) := by
  have hj : j < (B ++ A).length := by
    have := get_lt hx
    cases back with
    | false => exact this
    | true => rw [if_pos rfl, List.length_reverse] at this; exact this
  rw [List.length_append] at hj
  have hN : ((A ++ c :: B).length : Int) = A.length + B.length + 1 := by simp; omega
  rw [hN, Int.fmod_eq_emod_of_nonneg _ (by omega)]
  cases back with
  | false =>
    simp only [Bool.false_eq_true, if_false] at hx ⊢
    by_cases q : j < B.length
    · rw [List.getElem?_append_left q] at hx
      refine at_int (j := A.length + (1 + j)) ?_ (by omega) ?_
      · rw [Int.emod_eq_of_lt (by omega) (by omega)]; omega
      · rw [List.getElem?_append_right (by omega), show A.length + (1 + j) - A.length = j + 1 by omega]; exact hx
    · rw [List.getElem?_append_right (by omega)] at hx
      refine at_int (j := j - B.length) ?_ (by omega) ?_
      · rw [show (A.length : Int) + (1 + j) = (j - B.length : Int) + (A.length + B.length + 1) by omega, Int.add_emod_right, Int.emod_eq_of_lt (by omega) (by omega)]; omega
      · rw [List.getElem?_append_left (by omega)]; exact hx
  | true =>
    simp only [if_true] at hx ⊢
    rw [List.getElem?_reverse (by simpa using hj)] at hx
    rw [List.length_append] at hx
    by_cases q : j < A.length
    · refine at_int (j := A.length - (1 + j)) ?_ (by omega) ?_
      · rw [Int.emod_eq_of_lt (by omega) (by omega)]; omega
      · rw [List.getElem?_append_left (by omega), ← hx, List.getElem?_append_right (by omega)]
        congr 1; omega
    · refine at_int (j := A.length + (1 + (B.length + A.length - 1 - j))) ?_ (by omega) ?_
      · rw [show (A.length : Int) - (1 + j) = ((A.length : Int) + (B.length + A.length - j)) - (A.length + B.length + 1) by omega, Int.sub_emod_right, Int.emod_eq_of_lt (by omega) (by omega)]; omega
      · rw [List.getElem?_append_right (by omega), show A.length + (1 + (B.length + A.length - 1 - j)) - A.length = (B.length + A.length - 1 - j) + 1 by omega, ← hx, List.getElem?_append_left (by omega)]; rfl
theorem intsV_map : ∀ ks : List Int, intsV (ks.map .int) = some ks
  | [] => rfl
  | a :: r => by rw [List.map_cons]; unfold intsV; rw [intsV_map r]; rfl
theorem idxI_ok {A B : List Int} {c : Int} (hA : c ∉ A) : idxI ((A ++ c :: B).map .int) c = some A.length := by
  unfold idxI
  rw [intsV_map, Option.bind_some, if_pos (by simp), List.idxOf_append, if_neg hA]
  simp

/-! next -/
def rest (t : Tab) (c : Int) (back : Bool) : List Int :=
  if back then (((keys t).filter fun k => decide (k > c)) ++ ((keys t).filter fun k => decide (k < c))).reverse else ((keys t).filter fun k => decide (k > c)) ++ ((keys t).filter fun k => decide (k < c))
def okN (w : WS) (i : Nat) (noted : Bool) (k : Int) : Bool := !noted || w.fl (numAt (w.tab (tb i)) k)
def rowN (i : Nat) (back noted : Bool) (w : WS) (c : Int) : List Int := (rest (w.tab (tb i)) c back).filter (okN w i noted)
def nextB (i : Nat) (back noted : Bool) (w : WS) : Bool := match w.cur i with
  | none => false
  | some c => !(rowN i back noted w c).isEmpty
def nexted (i : Nat) (back noted : Bool) (w : WS) : WS := match w.cur i with
  | none => w
  | some c => match rowN i back noted w c with
    | [] => w
    | k :: _ => shown i k w
theorem rest_in {t : Tab} {c : Int} {back : Bool} {k : Int} (h : k ∈ rest t c back) : k ∈ keys t := by
  unfold rest at h
  have : k ∈ ((keys t).filter fun k => decide (k > c)) ++ ((keys t).filter fun k => decide (k < c)) := by
    cases back with
    | false => exact h
    | true => exact List.mem_reverse.mp h
  rcases List.mem_append.mp this with h | h
  · exact (List.mem_filter.mp h).1
  · exact (List.mem_filter.mp h).1
theorem inT_keys {t : Tab} (hs : Srt t) {k : Int} (h : k ∈ keys t) : inT t (some k) = true := (tget_isSome hs).mpr h

section
variable {st : St} {h n : Nat} {R L : WS} {i : Nat} {back noted : Bool}
theorem w_bell (I : Inv true st h n R L) {m : Nat} (hm : m < n) : ∃ b c, getA P st 21 (.obj 2 m) = some (.bool b) ∧ getA P st 22 (.obj 2 m) = some (.bool c) ∧ (b || c) = R.fl m := by
  obtain ⟨b, c, h1, h2⟩ := I.ww m hm
  refine ⟨b, c, ?_, ?_, h2⟩
  · unfold getA; dsimp only
    rw [if_pos (show P.attr 2 21 = true from rfl)]
    show ((st.wins[m]?).bind _) = _
    rw [h1]; rfl
  · unfold getA; dsimp only
    rw [if_pos (show P.attr 2 22 = true from rfl)]
    show ((st.wins[m]?).bind _) = _
    rw [h1]; rfl
theorem bi_lenI {ks : List Int} (hk : ks.length ≤ 1000) {Q : V → St → Prop} (q : Q (.int ks.length) st) : W2 (biS st .len (.list (ks.map .int))) Q := by
  refine W2.of ?_ q
  show (if _ then _ else _) = _
  rw [if_pos (by simpa using hk), List.length_map]
theorem next_real (I : Inv true st h n R L) (hi : i < 3) (hset : settle i R = R) (hin : ∀ c, R.cur i = some c → inT (R.tab (tb i)) (some c) = true) {k : Nat} {Q : V → St → Prop}
    (q : ∀ st', Inv true st' h n (nexted i back noted R) L → Q (.bool (nextB i back noted R)) st') : W2 (callF P (ev P (k + 60)) 115 [.obj 3 i, .bool back, .bool noted] st) Q := by
  refine C_fn (l := [(26, .obj 3 i), (36, .bool back), (37, .bool noted)]) rfl rfl ?_
  dsimp only [N115]
  walk_at "mux_r"
  refine settle_real I hi fun s1 I1 => ?_
  rw [hset] at I1
  walk_at "mux_r"
  refine indexes_ok I1 hi ?_
  walk_at "mux_r"
  refine S_ite ?_
  walk_at "mux_r"
  refine ⟨fun h1 => ?_, fun h1 => ?_⟩
  · walk_at "mux_r"
    have h2 := Option.isNone_iff_eq_none.mp h1
    have := q s1
    unfold nexted nextB at this
    rw [h2] at this
    exact this I1
  · cases hc : R.cur i with
    | none => rw [hc] at h1; cases h1
    | some c =>
      have hin := hin c hc
      have hs := (I.tR _ (tb_lt i)).srt
      have hl := (I.tR _ (tb_lt i)).len
      have hck : c ∈ keys (R.tab (tb i)) := (tget_isSome hs).mp hin
      have hsp := keys_split (keys_asc hs) hck
      have hA : c ∉ (keys (R.tab (tb i))).filter fun k => decide (k < c) := fun hm => by simpa using (List.mem_filter.mp hm).2
      have hlen : ((keys (R.tab (tb i))).filter fun k => decide (k < c)).length + ((keys (R.tab (tb i))).filter fun k => decide (k > c)).length + 1 = (R.tab (tb i)).length := by
        rw [← keys_len]
        conv => rhs; rw [hsp]
        simp; omega
      walk_at "mux_r"
      rw [hc]
      refine W2.of (v := .int ((keys (R.tab (tb i))).filter fun k => decide (k < c)).length) (s := s1) ?_ ?_
      · show (if _ then _ else _) = _
        rw [if_pos (by rw [List.length_map, keys_len]; omega)]
        have := idxI_ok (B := (keys (R.tab (tb i))).filter fun k => decide (k > c)) hA
        rw [← hsp] at this
        show Option.map _ (idxI ((keys (R.tab (tb i))).map V.int) c) = _
        rw [this]; rfl
      walk_at "mux_r"
      refine S_for (src_range ?_)
      walk_at "mux_r"
      have hkl : (keys (R.tab (tb i))).length ≤ 1000 := by rw [keys_len]; omega
      refine bi_lenI hkl ?_
      walk_at "mux_r"
      have hrl : (rest (R.tab (tb i)) c back).length = (R.tab (tb i)).length - 1 := by
        unfold rest
        cases back <;> simp only [if_true, if_false, Bool.false_eq_true, List.length_reverse, List.length_append] <;> omega
      refine W1.of (range_ok (m := (rest (R.tab (tb i)) c back).length) (by omega) (by rw [keys_len]; omega) (by rw [hrl, keys_len]; omega)) ?_
      refine forL_ok (fun j l s => Inv true s h n R L ∧ ((rest (R.tab (tb i)) c back).take j).filter (okN R i noted) = [] ∧ (l = [(26, .obj 3 i), (36, .bool back), (37, .bool noted), (38, .list ((keys (R.tab (tb i))).map .int)), (39, .int ((keys (R.tab (tb i))).filter fun k => decide (k < c)).length)] ∨ ∃ x y z, l = [(26, .obj 3 i), (36, .bool back), (37, .bool noted), (38, .list ((keys (R.tab (tb i))).map .int)), (39, .int ((keys (R.tab (tb i))).filter fun k => decide (k < c)).length), (40, x), (31, y), (32, z)])) _ 0 ⟨I1, rfl, .inl rfl⟩ (fun j v l s hj hI => ?_) (fun l s hI => ?_)
      · obtain ⟨I2, hf, hl2⟩ := hI
        rw [Nat.zero_add] at hf
        have hj1 : j < (rest (R.tab (tb i)) c back).length := by have := get_lt hj; simpa using this
        have hv : v = .int (1 + (j : Int)) := by
          rw [List.getElem?_map, List.getElem?_map, List.getElem?_range hj1] at hj
          exact (Option.some.inj hj).symm
        subst hv
        obtain ⟨x, hx⟩ : ∃ x, (rest (R.tab (tb i)) c back)[j]? = some x := ⟨_, List.getElem?_eq_getElem hj1⟩
        have hxk := rest_in (List.mem_of_getElem? hx)
        have hxm := numAt_get (inT_keys hs hxk)
        have hmn := (I.tR _ (tb_lt i)).lt hxm
        have hnext : ∀ b, okN R i noted x = b → b = false → ((rest (R.tab (tb i)) c back).take (j + 1)).filter (okN R i noted) = [] := fun b hb e => by
          rw [List.take_add_one, hx, List.filter_append, hf]
          simp [hb, e]
        have hrow : okN R i noted x = true → ∃ r, rowN i back noted R c = x :: r := fun hb => by
          refine ⟨((rest (R.tab (tb i)) c back).drop (j + 1)).filter (okN R i noted), ?_⟩
          unfold rowN
          conv => lhs; rw [← List.take_append_drop j (rest (R.tab (tb i)) c back)]
          rw [List.filter_append, hf, List.drop_eq_getElem_cons hj1]
          have : (rest (R.tab (tb i)) c back)[j] = x := by rw [List.getElem?_eq_getElem hj1] at hx; exact Option.some.inj hx
          rw [this, List.filter_cons_of_pos hb]; rfl
        have hrot : getI s (.list ((keys (R.tab (tb i))).map .int)) (.int ((if back then ((((keys (R.tab (tb i))).filter fun k => decide (k < c)).length : Nat) : Int) - (1 + j) else (((keys (R.tab (tb i))).filter fun k => decide (k < c)).length : Nat) + (1 + (j : Int))).fmod ((keys (R.tab (tb i))).length : Nat))) = some (.int x) := by
          have := rot (c := c) (s := s) (back := back) (j := j) (A := (keys (R.tab (tb i))).filter fun k => decide (k < c)) (B := (keys (R.tab (tb i))).filter fun k => decide (k > c)) (by omega) hx
          rw [← hsp] at this
          exact this
        obtain ⟨bb, cc, hb1, hb2, hb3⟩ := w_bell I2 hmn
        rcases hl2 with rfl | ⟨x', y', z', rfl⟩
        all_goals
          walk_at "mux_r"
          refine W2.to (v := .int (if back then ((((keys (R.tab (tb i))).filter fun k => decide (k < c)).length : Nat) : Int) - (1 + j) else (((keys (R.tab (tb i))).filter fun k => decide (k < c)).length : Nat) + (1 + (j : Int)))) (s := s) (E_ite ?_) ?_
          · walk_at "mux_r"
            cases back with
            | false =>
              refine ⟨nofun, fun _ => ?_⟩
              walk_at "mux_r"
              exact ⟨rfl, rfl⟩
            | true =>
              refine ⟨fun _ => ?_, nofun⟩
              walk_at "mux_r"
              exact ⟨rfl, rfl⟩
          walk_at "mux_r"
          refine bi_lenI hkl ?_
          refine W1.of (show (if _ then _ else _) = _ from if_pos (by rw [keys_len]; simp; omega)) ?_
          refine W1.of hrot ?_
          walk_at "mux_r"
          have hok : okN R i noted x = (!noted || (bb || cc)) := by unfold okN; rw [hb3]
          refine S_ite (W2.to (v := okN R i noted x) (s := s) (B_or3 ?_) ⟨fun ht => ?_, fun ht => ?_⟩)
          · rw [hok]
            walk_at "mux_r"
            refine ⟨fun e => ⟨by rw [e]; rfl, rfl⟩, fun e => ?_⟩
            walk_at "mux_r"
            refine W1.of hb1 ?_
            walk_at "mux_r"
            refine ⟨fun e2 => ⟨by rw [e, e2]; rfl, rfl⟩, fun e2 => ?_⟩
            walk_at "mux_r"
            refine W1.of hb2 ?_
            walk_at "mux_r"
            rw [e, e2]; exact ⟨rfl, rfl⟩
          · walk_at "mux_r"
            refine shown_real I2 hi fun st' I3 => ?_
            have := q st'
            obtain ⟨r, hr⟩ := hrow ht
            unfold nexted nextB at this
            rw [hc] at this
            dsimp only at this
            rw [hr] at this
            rw [inT_keys hs hxk]
            exact this I3
          · walk_at "mux_r"
            refine ⟨I2, ?_, .inr ⟨_, _, _, rfl⟩⟩
            rw [Nat.zero_add]
            exact hnext _ rfl ht
      · obtain ⟨I2, hf, hl2⟩ := hI
        have hr : rowN i back noted R c = [] := by
          unfold rowN
          rw [List.length_map, List.length_map, List.length_range, Nat.zero_add, List.take_length] at hf
          exact hf
        have := q s
        unfold nexted nextB at this
        rw [hc] at this
        dsimp only at this
        rw [hr] at this
        walk_at "mux_r"
        exact this I2
theorem sf_of {s : St} {l : Loc} {n' : Nat} {x : Nat} {Q : Bool → St → Prop} {e i' : PE} (h : W2 ((ev P n').E e l s) fun o s => W2 ((ev P n').E i' l s) fun k s => W1 (getI s o k) fun w => ∃ b, w = .bool b ∧ Q b s) : W2 ((ev P (n' + 1)).B (.idx e i') l s) Q := B_idx h
theorem next_law (I : Inv true st h n R L) (hi : i < 3) {k : Nat} {Q : V → St → Prop}
    (q : ∀ st', Inv true st' h n R (nexted i back noted L) → Q (.bool (nextB i back noted L)) st') : W2 (callF P (ev P (k + 60)) 16 [.sd 0, .int i, .bool back, .bool noted] st) Q := by
  refine C_fn (l := [(60, .sd 0), (53, .int i), (36, .bool back), (37, .bool noted)]) rfl rfl ?_
  dsimp only [N16]
  walk_at "mux_r"
  refine S_ite ?_
  walk_at "mux_r"
  refine ⟨fun h1 => ?_, fun h1 => ?_⟩
  · walk_at "mux_r"
    have h2 := Option.isNone_iff_eq_none.mp h1
    have := q st
    unfold nexted nextB at this
    rw [h2] at this
    exact this I
  · cases hc : L.cur i with
    | none => rw [hc] at h1; cases h1
    | some c =>
      have hs := (I.tL _ (tb_lt i)).srt
      have hl := (I.tL _ (tb_lt i)).len
      have hkl : (keys (L.tab (tb i))).length ≤ 50 := by rw [keys_len]; exact hl
      have hf1 : ((keys (L.tab (tb i))).filter fun k => decide (k > c)).length ≤ 50 := Nat.le_trans (List.length_filter_le ..) hkl
      have hf2 : ((keys (L.tab (tb i))).filter fun k => decide (k < c)).length ≤ 50 := Nat.le_trans (List.length_filter_le ..) hkl
      have hrl : (rest (L.tab (tb i)) c back).length ≤ 100 := by
        unfold rest
        cases back <;> simp only [if_true, if_false, Bool.false_eq_true, List.length_reverse, List.length_append] <;> omega
      walk_at "mux_r"
      refine E_filter (fun k => decide (k > c)) ?_
      walk_at "mux_r"
      refine ⟨_, rfl, by omega, fun k hk => ?_, ?_⟩
      · walk_at "mux_r"
        exact c_gt (y := c) ⟨rfl, rfl⟩
      refine E_filter (fun k => decide (k < c)) ?_
      walk_at "mux_r"
      refine ⟨_, rfl, by omega, fun k hk => ?_, ?_⟩
      · walk_at "mux_r"
        exact c_lt (y := c) ⟨rfl, rfl⟩
      refine W1.of (add_int (by omega)) ?_
      walk_at "mux_r"
      refine E_filterS (okN L i noted) (src_val ?_)
      refine W2.to (v := .list ((rest (L.tab (tb i)) c back).map .int)) (s := st) (E_ite ?_) ?_
      · walk_at "mux_r"
        cases back with
        | false =>
          refine ⟨nofun, fun _ => ?_⟩
          walk_at "mux_r"
          exact ⟨rfl, rfl⟩
        | true =>
          refine ⟨fun _ => E_rev ?_, nofun⟩
          walk_at "mux_r"
          refine ⟨_, rfl, by rw [List.length_map, List.length_append]; omega, ?_, rfl⟩
          rw [← List.map_reverse]; rfl
      refine .inl ⟨_, .inl rfl, by rw [List.length_map]; omega, _, rfl, fun k hk => ?_, ?_⟩
      · have hkm := numAt_get (inT_keys hs (rest_in hk))
        have hmn := (I.tL _ (tb_lt i)).lt hkm
        refine B_or ?_
        walk_at "mux_r"
        refine ⟨fun e => ⟨by unfold okN; rw [e]; rfl, rfl⟩, fun e => ?_⟩
        walk_at "mux_r"
        exact ⟨by unfold okN; rw [e]; rfl, rfl⟩
      walk_at "mux_r"
      refine E_and (E_ne_ml ?_)
      walk_at "mux_r"
      refine ⟨_, rfl, _, rfl, fun h2 => ?_, fun h2 => ?_⟩
      · have := q _ (by
          have e : nexted i back noted L = L := by
            unfold nexted; rw [hc]
            have : rowN i back noted L c = [] := by
              have h3 : (!(rowN i back noted L c).isEmpty) = false := h2
              generalize rowN i back noted L c = z at h3 ⊢
              cases z with
              | nil => rfl
              | cons a r => cases h3
            dsimp only; rw [this]
          rw [e]; exact I.newMl [])
        have e2 : nextB i back noted L = false := by unfold nextB; rw [hc]; exact h2
        rw [e2] at this
        exact this
      · have I2 := I.newMl []
        revert I2
        generalize { st with mls := st.mls ++ [[]] } = s2
        intro I2
        have hne : rowN i back noted L c ≠ [] := by intro e; unfold rowN at e; rw [e] at h2; cases h2
        walk_at "mux_i"
        obtain ⟨k0, r, hr⟩ := List.exists_cons_of_ne_nil hne
        have hk0 : k0 ∈ keys (L.tab (tb i)) := by
          have : k0 ∈ rowN i back noted L c := by rw [hr]; exact .head _
          unfold rowN at this
          exact rest_in (List.mem_filter.mp this).1
        refine W1.of (at_head hne 0) ?_
        walk_at "mux_r"
        rw [hr]
        refine shown_law I2 hi fun s3 I3 => ?_
        have := q s3 (by
          have e : nexted i back noted L = shown i k0 L := by
            unfold nexted; rw [hc]; dsimp only; rw [hr]
          rw [e]; exact I3)
        have e2 : nextB i back noted L = true := by unfold nextB; rw [hc]; dsimp only; rw [hr]; rfl
        rw [e2] at this
        have e3 : inT (L.tab (tb i)) (some ((k0 :: r).headD 0)) = true := inT_keys hs hk0
        rw [e3]
        exact this
end
/-! tables whose keys are renamed -/
def tfold (G : Int → Int) (f : Int → Nat) (ks : List Int) (acc : Tab) : Tab := ks.foldl (fun acc k => tset (G k) (f k) acc) acc
def remap (t : Tab) (G : Int → Int) : Tab := tfold G (numAt t) (keys t) []
theorem tfold_srt {G : Int → Int} {f : Int → Nat} : ∀ {ks : List Int} {acc : Tab}, Srt acc → Srt (tfold G f ks acc)
  | [], _, h => h
  | k :: ks, _, h => tfold_srt (ks := ks) (tset_srt h)
theorem tfold_len {G : Int → Int} {f : Int → Nat} : ∀ {ks : List Int} {acc : Tab}, (tfold G f ks acc).length ≤ ks.length + acc.length
  | [], acc => by simp [tfold]
  | k :: ks, acc => by
    have h1 := tfold_len (G := G) (f := f) (ks := ks) (acc := tset (G k) (f k) acc)
    have h2 := tset_len (G k) (f k) acc
    show (tfold G f ks (tset (G k) (f k) acc)).length ≤ ks.length + 1 + acc.length
    omega
theorem tfold_num {G : Int → Int} {f : Int → Nat} {n : Nat} : ∀ {ks : List Int} {acc : Tab}, (∀ k ∈ ks, f k < n) → (∀ p ∈ acc, p.2 < n) → ∀ p ∈ tfold G f ks acc, p.2 < n
  | [], _, _, h, p, hp => h p hp
  | k :: ks, acc, hf, h, p, hp => tfold_num (ks := ks) (acc := tset (G k) (f k) acc) (fun x hx => hf x (.tail _ hx)) (fun q hq => by
      rcases mem_tset hq with rfl | hq
      · exact hf k (.head _)
      · exact h q hq) p hp
theorem tfold_out {G : Int → Int} {f : Int → Nat} {j : Int} : ∀ {ks : List Int} {acc : Tab}, Srt acc → (∀ k ∈ ks, G k ≠ j) → tget (tfold G f ks acc) j = tget acc j
  | [], _, _, _ => rfl
  | k :: ks, acc, hs, h => by
    show tget (tfold G f ks (tset (G k) (f k) acc)) j = _
    rw [tfold_out (tset_srt hs) fun x hx => h x (.tail _ hx), tget_tset hs, if_neg fun e => h k (.head _) e.symm]
theorem tfold_in {G : Int → Int} {f : Int → Nat} {k : Int} : ∀ {ks : List Int} {acc : Tab}, Srt acc → ks.Nodup → (∀ a ∈ ks, ∀ b ∈ ks, G a = G b → a = b) → k ∈ ks → tget (tfold G f ks acc) (G k) = some (f k)
  | [], _, _, _, _, h => by cases h
  | a :: ks, acc, hs, hn, hi, h => by
    have hn' := List.nodup_cons.mp hn
    show tget (tfold G f ks (tset (G a) (f a) acc)) (G k) = _
    by_cases q : k = a
    · subst q
      rw [tfold_out (tset_srt hs) fun x hx e => hn'.1 (hi x (.tail _ hx) k (.head _) e ▸ hx), tget_tset hs, if_pos rfl]
    · have hm : k ∈ ks := by
        rcases List.mem_cons.mp h with e | e
        · exact absurd e q
        · exact e
      exact tfold_in (tset_srt hs) hn'.2 (fun a ha b hb => hi a (.tail _ ha) b (.tail _ hb)) hm
theorem srt_nil : Srt [] := List.Pairwise.nil
theorem remap_srt {t : Tab} {G : Int → Int} : Srt (remap t G) := tfold_srt srt_nil
theorem keys_nodup {t : Tab} (h : Srt t) : (keys t).Nodup := srt_nodup h
theorem tget_remap {t : Tab} {G : Int → Int} (hs : Srt t) (hi : ∀ a ∈ keys t, ∀ b ∈ keys t, G a = G b → a = b) {j : Int} {m : Nat} : tget (remap t G) j = some m ↔ ∃ k, tget t k = some m ∧ G k = j := by
  constructor
  · intro h
    by_cases q : ∃ k ∈ keys t, G k = j
    · obtain ⟨k, hk, rfl⟩ := q
      have := tfold_in (f := numAt t) srt_nil (keys_nodup hs) hi hk
      unfold remap at h
      rw [this] at h
      exact ⟨k, by rw [numAt_get (inT_keys hs hk)]; exact h, rfl⟩
    · unfold remap at h
      rw [tfold_out srt_nil fun k hk e => q ⟨k, hk, e⟩] at h
      cases h
  · rintro ⟨k, hk, rfl⟩
    have hm : k ∈ keys t := (tget_isSome hs).mp (by rw [hk]; rfl)
    have := tfold_in (f := numAt t) srt_nil (keys_nodup hs) hi hm
    unfold remap
    rw [this]
    unfold numAt; rw [hk]; rfl
theorem TabOk.remap {n : Nat} {t : Tab} {G : Int → Int} (h : TabOk n t) : TabOk n (remap t G) :=
  ⟨remap_srt, by have := tfold_len (G := G) (f := numAt t) (ks := keys t) (acc := []); rw [keys_len] at this; exact Nat.le_trans this (by have := h.len; simpa using this),
   tfold_num (fun k hk => h.lt (numAt_get (inT_keys h.srt hk))) (fun p hp => by cases hp)⟩
theorem remap_len {t : Tab} {G : Int → Int} : (remap t G).length ≤ t.length := by
  have := tfold_len (G := G) (f := numAt t) (ks := keys t) (acc := []); rw [keys_len] at this; exact Nat.le_trans this (by simp)
def pairsG (G : Int → Int) (f : Int → Nat) (ks : List Int) : List (Int × V) := ks.map fun k => (G k, .int (f k))
theorem dmerge_rep {enc : Nat → V} {G : Int → Int} {f : Int → Nat} : ∀ {ks : List Int} {es : List (Int × V)} {acc : Tab}, Rep enc es acc → Srt acc → Rep enc (dmerge es (ks.map fun k => (G k, enc (f k)))) (tfold G f ks acc)
  | [], _, _, h, _ => h
  | k :: ks, es, acc, h, hs => dmerge_rep (ks := ks) (es := dset es (G k) (enc (f k))) (acc := tset (G k) (f k) acc) (h.set hs) (tset_srt hs)
theorem dmerge_app : ∀ {E acc : List (Int × V)}, (E.map (·.1)).Nodup → (∀ p ∈ E, p.1 ∉ acc.map (·.1)) → dmerge acc E = acc ++ E
  | [], acc, _, _ => by simp [dmerge]
  | p :: E, acc, hn, hd => by
    have hn' := List.nodup_cons.mp (List.map_cons ▸ hn)
    show dmerge (dset acc p.1 p.2) E = _
    have e : dset acc p.1 p.2 = acc ++ [p] := by
      unfold dset
      rw [if_neg]
      intro h
      obtain ⟨x, hx, e⟩ := List.any_eq_true.mp h
      exact hd p (.head _) (List.mem_map.mpr ⟨x, hx, of_decide_eq_true e⟩)
    rw [e, dmerge_app hn'.2 (fun x hx hm => by
      rw [List.map_append, List.mem_append] at hm
      rcases hm with hm | hm
      · exact hd x (.tail _ hx) hm
      · have : x.1 = p.1 := by simpa using hm
        exact hn'.1 (this ▸ List.mem_map.mpr ⟨x, hx, rfl⟩)), List.append_assoc]; rfl

/-! goals -/
def Keep (a b : St) : Prop := ∀ d es, 4 ≤ d → a.dicts[d]? = some es → b.dicts[d]? = some es
theorem Keep.refl (a : St) : Keep a a := fun _ _ _ h => h
theorem Keep.trans {a b c : St} (h : Keep a b) (k : Keep b c) : Keep a c := fun d es hd e => k d es hd (h d es hd e)
structure GoalsAt (st : St) (d : Nat) (G : Int → Int) : Prop where
  hd : 4 ≤ d
  ex : ∃ es, st.dicts[d]? = some es ∧ ∀ k, (dget es k).getD (.int k) = .int (G k)
theorem GoalsAt.keep {a b : St} {d : Nat} {G : Int → Int} (h : GoalsAt a d G) (k : Keep a b) : GoalsAt b d G :=
  ⟨h.hd, let ⟨es, h1, h2⟩ := h.ex; ⟨es, k d es h.hd h1, h2⟩⟩
theorem bm_goal {st : St} {d : Nat} {G : Int → Int} (h : GoalsAt st d G) {c : Option Int} {Q : V → St → Prop} (q : Q (oV (c.map G)) st) : W2 (bmS st .get (.dict d) [oV c, oV c]) Q := by
  obtain ⟨es, h1, h2⟩ := h.ex
  refine W2.of ?_ q
  cases c with
  | none => show ((st.dicts[d]?).bind _) = _; rw [h1]; rfl
  | some c =>
    show ((st.dicts[d]?).bind _) = _
    rw [h1, Option.bind_some]
    show some ((dget es c).getD (.int c), st) = _
    rw [h2]; rfl
theorem bm_goal1 {st : St} {d : Nat} {G : Int → Int} (h : GoalsAt st d G) {c : Int} {Q : V → St → Prop} (q : Q (.int (G c)) st) : W2 (bmS st .get (.dict d) [.int c, .int c]) Q := bm_goal h (c := some c) q
def ren (i : Nat) (G : Int → Int) (w : WS) : WS := (w.sc i ((w.cur i).map G)).sl i ((w.last i).map G)
def ledIf (k j : Nat) (G : Int → Int) (w : WS) : WS := if tb j = k then ren j G w else w
def led (k : Nat) (G : Int → Int) (w : WS) : WS := ledIf k 2 G (ledIf k 1 G (ledIf k 0 G w))
def placed (i : Nat) (G : Int → Int) (w : WS) : WS := led (tb i) G (w.st (tb i) (remap (w.tab (tb i)) G))

theorem keep_setA {s s' : St} {a c n : Nat} {v : V} (h : setA P s a v (.obj c n) = some s') : Keep s s' := by
  unfold setA at h
  dsimp only at h
  split at h
  · cases e : (s.objs c)[n]? with
    | none => rw [e] at h; cases h
    | some f =>
      rw [e, Option.bind_some] at h
      split at h
      · cases h
        exact fun d es _ hx => by rw [(setObjs_dicts _ _ _).1]; exact hx
      · cases h
  · cases h
theorem keep_setI {s s' : St} {i a : Nat} {v : V} (h : setI s (.sd i) (.str a) v = some s') : Keep s s' := by
  have h : ((s.sds[i]?).bind fun es => if es.length ≤ 1000 then some { s with sds := s.sds.set i (upd a v es) } else .none) = some s' := h
  cases e : s.sds[i]? with
  | none => rw [e] at h; cases h
  | some f =>
    rw [e, Option.bind_some] at h
    split at h
    · cases h; exact Keep.refl _
    · cases h

section
variable {st : St} {h n : Nat} {R L : WS} {i : Nat} {G : Int → Int} {d : Nat}
theorem set_curK (I : Inv true st h n R L) (hi : i < 3) {c : Option Int} {Q : St → Prop} (q : ∀ st', Inv true st' h n (R.sc i c) L → Keep st st' → Q st') : W1 (setA P st 25 (oV c) (.obj 3 i)) Q := by
  obtain ⟨s', h1, I'⟩ := set_cur I hi (c := c) (Q := fun s' => Inv true s' h n (R.sc i c) L) fun _ h => h
  exact ⟨s', h1, q s' I' (keep_setA h1)⟩
theorem set_lastK (I : Inv true st h n R L) (hi : i < 3) {c : Option Int} {Q : St → Prop} (q : ∀ st', Inv true st' h n (R.sl i c) L → Keep st st' → Q st') : W1 (setA P st 18 (oV c) (.obj 3 i)) Q := by
  obtain ⟨s', h1, I'⟩ := set_last I hi (c := c) (Q := fun s' => Inv true s' h n (R.sl i c) L) fun _ h => h
  exact ⟨s', h1, q s' I' (keep_setA h1)⟩
theorem set_rcurK (I : Inv true st h n R L) (hi : i < 3) {c : Option Int} {Q : St → Prop} (q : ∀ st', Inv true st' h n R (L.sc i c) → Keep st st' → Q st') : W1 (setI st (.sd (1 + i)) (.str 25) (oV c)) Q := by
  obtain ⟨s', h1, I'⟩ := set_rcur I hi (c := c) (Q := fun s' => Inv true s' h n R (L.sc i c)) fun _ h => h
  exact ⟨s', h1, q s' I' (keep_setI h1)⟩
theorem set_rlastK (I : Inv true st h n R L) (hi : i < 3) {c : Option Int} {Q : St → Prop} (q : ∀ st', Inv true st' h n R (L.sl i c) → Keep st st' → Q st') : W1 (setI st (.sd (1 + i)) (.str 18) (oV c)) Q := by
  obtain ⟨s', h1, I'⟩ := set_rlast I hi (c := c) (Q := fun s' => Inv true s' h n R (L.sl i c)) fun _ h => h
  exact ⟨s', h1, q s' I' (keep_setI h1)⟩
theorem ren_real (I : Inv true st h n R L) (hi : i < 3) (hG : GoalsAt st d G) {k : Nat} {Q : V → St → Prop} (q : ∀ st', Inv true st' h n (ren i G R) L → Keep st st' → Q .none st') : W2 (callF P (ev P (k + 8)) 119 [.obj 3 i, .dict d] st) Q := by
  refine C_fn (l := [(26, .obj 3 i), (46, .dict d)]) rfl rfl ?_
  dsimp only [N119]
  walk_at "mux_r"
  refine bm_goal hG ?_
  walk_at "mux_r"
  refine set_curK I hi fun s1 I1 k1 => ?_
  walk_at "mux_r"
  refine bm_goal (hG.keep k1) ?_
  walk_at "mux_r"
  refine set_lastK I1 hi fun s2 I2 k2 => ?_
  walk_at "mux_r"
  exact q s2 I2 (k1.trans k2)
/-- a loop over a mutable list, step by step -/
theorem forM_step {r : Rec} {t : Tg} {b : List PS} {k m j : Nat} {l : Loc} {s : St} {xs : List V} {x : V} {Q : Fl → Loc → St → Prop} (h1 : s.mls[k]? = some xs) (h2 : xs[j]? = some x)
    (h : W2 (assign P r t x l s) fun l s => W3 (exB r b l s) fun f l s => match f with
      | .next => W3 (forM P r t b k m (j + 1) l s) Q
      | .ret v => Q (.ret v) l s) : W3 (forM P r t b k (m + 1) j l s) Q := by
  obtain ⟨l1, s1, h3, f, l2, s2, h4, q⟩ := h
  cases f with
  | next =>
    obtain ⟨f, l3, s3, h5, q⟩ := q
    exact ⟨f, l3, s3, by simp only [forM, h1, h2, h3, h4, h5], q⟩
  | ret v => exact ⟨.ret v, l2, s2, by simp only [forM, h1, h2, h3, h4], q⟩
theorem forM_done {r : Rec} {t : Tg} {b : List PS} {k m j : Nat} {l : Loc} {s : St} {xs : List V} {Q : Fl → Loc → St → Prop} (h1 : s.mls[k]? = some xs) (h2 : xs[j]? = none) (q : Q .next l s) : W3 (forM P r t b k (m + 1) j l s) Q :=
  ⟨.next, l, s, by simp only [forM, h1, h2], q⟩
theorem led_body (I : Inv true st h n R L) (hi : i < 3) (hG : GoalsAt st d G) {e k : Nat} {l : Loc} {Q : Fl → Loc → St → Prop} (hl : l = [(60, .sd 0), (66, .int (e : Nat)), (46, .dict d), (61, .sd (1 + i))]) (q : ∀ st', Inv true st' h n R (ledIf e i G L) → Keep st st' → Q .next l st') :
    W3 ((ev P (k + 8)).S (.ite (.cmp .eq (.idx (.var 61) (.const (.str 62))) (.var 66)) [.asg (.idx (.var 61) (.const (.str 25))) (.bm .get (.var 46) [.idx (.var 61) (.const (.str 25)), .idx (.var 61) (.const (.str 25))]), .asg (.idx (.var 61) (.const (.str 18))) (.bm .get (.var 46) [.idx (.var 61) (.const (.str 18)), .idx (.var 61) (.const (.str 18))])] []) l st) Q := by
  subst hl
  refine S_ite ?_
  walk_at "mux_r"
  refine ⟨fun h1 => ?_, fun h1 => ?_⟩
  · walk_at "mux_r"
    refine bm_goal hG ?_
    walk_at "mux_r"
    refine set_rcurK I hi fun s1 I1 k1 => ?_
    walk_at "mux_r"
    refine bm_goal (hG.keep k1) ?_
    walk_at "mux_r"
    refine set_rlastK I1 hi fun s2 I2 k2 => ?_
    walk_at "mux_r"
    refine q s2 (I2.to2 ?_) (k1.trans k2)
    unfold ledIf
    rw [if_pos (by have := of_decide_eq_true h1; omega)]; rfl
  · walk_at "mux_r"
    refine q st (I.to2 ?_) (Keep.refl _)
    unfold ledIf
    rw [if_neg (by have := of_decide_eq_false h1; omega)]
theorem led_law (I : Inv true st h n R L) (hG : GoalsAt st d G) {e k : Nat} {Q : V → St → Prop} (q : ∀ st', Inv true st' h n R (led e G L) → Keep st st' → Q .none st') : W2 (callF P (ev P (k + 16)) 14 [.sd 0, .int (e : Nat), .dict d] st) Q := by
  refine C_fn (l := [(60, .sd 0), (66, .int (e : Nat)), (46, .dict d)]) rfl rfl ?_
  dsimp only [N14]
  walk_at "mux_r"
  refine S_for (src_val ?_)
  walk_at "mux_r"
  refine .inr ⟨_, _, rfl, I.m3, by decide, ?_⟩
  refine forM_step I.m3 rfl ?_
  walk_at "mux_r"
  refine led_body (i := 0) I (by decide) hG rfl fun s1 I1 k1 => ?_
  walk_at "mux_r"
  refine forM_step I1.m3 rfl ?_
  walk_at "mux_r"
  refine led_body (i := 1) I1 (by decide) (hG.keep k1) rfl fun s2 I2 k2 => ?_
  walk_at "mux_r"
  refine forM_step I2.m3 rfl ?_
  walk_at "mux_r"
  refine led_body (i := 2) I2 (by decide) (hG.keep (k1.trans k2)) rfl fun s3 I3 k3 => ?_
  walk_at "mux_r"
  refine forM_done I3.m3 rfl ?_
  walk_at "mux_r"
  exact q s3 I3 ((k1.trans k2).trans k3)
theorem Keep.set {s : St} {j : Nat} (hj : j < 4) (es : List (Int × V)) : Keep s { s with dicts := s.dicts.set j es } := fun d es' hd e => by
  show (s.dicts.set j es)[d]? = _
  rw [List.getElem?_set_ne (by omega)]; exact e
theorem Keep.new {s : St} (es : List (Int × V)) : Keep s { s with dicts := s.dicts ++ [es] } := fun d es' hd e => (get_app (get_lt e)).trans e
theorem pairsV_map {ks : List Int} {G : Int → Int} {f : Int → V} : pairsV (ks.map fun k => V.tup [.int (G k), f k]) = some (ks.map fun k => (G k, f k)) := by
  induction ks with
  | nil => rfl
  | cons a r ih =>
    rw [List.map_cons]
    unfold pairsV
    rw [ih]; rfl
theorem dmerge_twice {enc : Nat → V} {E : List (Int × V)} {t : Tab} (h : Rep enc (dmerge [] E) t) (hs : Srt t) : dmerge [] (dmerge [] E) = dmerge [] E := by
  rw [dmerge_app (h.nodup hs) (fun p _ hm => by cases hm)]; rfl
theorem placed_law (I : Inv true st h n R L) (hG : GoalsAt st d G) {k : Nat} {Q : V → St → Prop} (q : ∀ st', Inv true st' h n R (placed i G L) → Q .none st') : W2 (callF P (ev P (k + 24)) 15 [.sd 0, .int (tb i), .dict d] st) Q := by
  refine C_fn (l := [(60, .sd 0), (66, .int (tb i)), (46, .dict d)]) rfl rfl ?_
  dsimp only [N15]
  have ht := I.tL _ (tb_lt i)
  walk_at "mux_r"
  refine E_mapK (fun k => .tup [.int (G k), encI (numAt (L.tab (tb i)) k)]) ?_
  walk_at "mux_r"
  refine ⟨_, rfl, by rw [keys_len]; have := ht.len; omega, fun k hk => ?_, ?_⟩
  · have hkm := numAt_get (inT_keys ht.srt hk)
    walk_at "mux_r"
    refine bm_goal1 hG ?_
    walk_at "mux_r"
    exact ⟨rfl, rfl⟩
  walk_at "mux_r"
  obtain ⟨es, he1, he2⟩ := I.dL _ (tb_lt i)
  refine W2.of (v := .none) (s := { st with dicts := st.dicts.set (tb i) [] }) ?_ ?_
  · show ((st.dicts[tb i]?).bind _) = _
    rw [he1, Option.bind_some, if_pos (by rw [he2.len]; have := ht.len; omega)]
  have I1 := I.updL (tb_lt i) (es := []) (t := []) Rep.nil ⟨srt_nil, by simp, fun p hp => by cases hp⟩
  have k1 : Keep st { st with dicts := st.dicts.set (tb i) [] } := Keep.set (by have := tb_lt i; omega) []
  have hz : ({ st with dicts := st.dicts.set (tb i) [] } : St).dicts[tb i]? = some [] := List.getElem?_set_self (get_lt he1)
  revert I1 k1 hz
  generalize ({ st with dicts := st.dicts.set (tb i) [] } : St) = s1
  intro I1 k1 hz
  walk_at "mux_r"
  refine W2.of (v := .dict s1.dicts.length) (s := { s1 with dicts := s1.dicts ++ [dmerge [] ((keys (L.tab (tb i))).map fun k => (G k, encI (numAt (L.tab (tb i)) k)))] }) ?_ ?_
  · show (if _ then _ else _) = _
    rw [if_pos (by rw [List.length_map, keys_len]; have := ht.len; omega), pairsV_map]; rfl
  walk_at "mux_r"
  have hr : Rep encI (dmerge [] ((keys (L.tab (tb i))).map fun k => (G k, encI (numAt (L.tab (tb i)) k)))) (remap (L.tab (tb i)) G) := dmerge_rep Rep.nil srt_nil
  have I2 := I1.newDict (dmerge [] ((keys (L.tab (tb i))).map fun k => (G k, encI (numAt (L.tab (tb i)) k))))
  have k2 := k1.trans (Keep.new (dmerge [] ((keys (L.tab (tb i))).map fun k => (G k, encI (numAt (L.tab (tb i)) k)))))
  have hd1 : ({ s1 with dicts := s1.dicts ++ [dmerge [] ((keys (L.tab (tb i))).map fun k => (G k, encI (numAt (L.tab (tb i)) k)))] } : St).dicts[s1.dicts.length]? = some (dmerge [] ((keys (L.tab (tb i))).map fun k => (G k, encI (numAt (L.tab (tb i)) k)))) := by
    show (s1.dicts ++ [_])[s1.dicts.length]? = _; simp
  have hz2 : ({ s1 with dicts := s1.dicts ++ [dmerge [] ((keys (L.tab (tb i))).map fun k => (G k, encI (numAt (L.tab (tb i)) k)))] } : St).dicts[tb i]? = some [] := (get_app (get_lt hz)).trans hz
  have hlt := I1.dlen
  revert I2 k2 hd1 hz2
  generalize ({ s1 with dicts := s1.dicts ++ [dmerge [] ((keys (L.tab (tb i))).map fun k => (G k, encI (numAt (L.tab (tb i)) k)))] } : St) = s2
  intro I2 k2 hd1 hz2
  have hmm := dmerge_twice hr remap_srt
  have hrl := hr.len
  have htr := (ht.remap (G := G)).len
  generalize dmerge [] ((keys (L.tab (tb i))).map fun k => (G k, encI (numAt (L.tab (tb i)) k))) = es2 at hr hd1 hmm hrl
  refine W2.of (v := .none) (s := { s2 with dicts := s2.dicts.set (tb i) es2 }) ?_ ?_
  · show (if _ then _ else (s2.dicts[tb i]?).bind _) = _
    rw [if_neg (by have := tb_lt i; omega), hz2, Option.bind_some, hd1, Option.bind_some, hmm, if_pos (by rw [hrl]; show 0 + _ ≤ 1000; omega)]
  have I3 := I2.updL (tb_lt i) hr ht.remap
  have k3 : Keep st { s2 with dicts := s2.dicts.set (tb i) es2 } := k2.trans (Keep.set (by have := tb_lt i; omega) es2)
  revert I3 k3
  generalize ({ s2 with dicts := s2.dicts.set (tb i) es2 } : St) = s3
  intro I3 k3
  walk_at "mux_r"
  refine led_law I3 (hG.keep k3) fun s4 I4 k4 => ?_
  walk_at "mux_r"
  refine q s4 (I4.to2 ?_)
  unfold placed
  simp only [WS.st, upf_upf]
end
/-! sessions of one group -/
theorem E_objs {n x : Nat} {e c : PE} {l : Loc} {s : St} {Q : V → St → Prop} (p : Nat → Bool) (h : W2 ((ev P (n + 1)).E e l s) fun v s1 => ∃ js : List Nat, v = .list (js.map (V.obj 3)) ∧ js.length ≤ 1000 ∧ (∀ j ∈ js, W2 ((ev P (n + 1)).B c (upd x (.obj 3 j) (lrm [x] l)) s1) fun b s' => b = p j ∧ s' = s1) ∧ Q (.list ((js.filter p).map (V.obj 3))) s1) :
    W2 ((ev P (n + 2)).E (.comp (.var x) (.var x) (.val e) (some c)) l s) Q := by
  obtain ⟨v, s1, h1, ks, rfl, h2, h3, q⟩ := h
  refine E_comp (src_val ⟨_, s1, h1, .inl ⟨_, .inl rfl, by simpa using h2, ?_⟩⟩)
  refine ⟨_, s1, comp_gen (g := fun v => match v with | .obj _ k => if p k then some (.obj 3 k) else none | _ => none) fun v hv => ?_, ?_⟩
  · obtain ⟨k, hk, rfl⟩ := List.mem_map.mp hv
    obtain ⟨b, s', h4, rfl, rfl⟩ := h3 k hk
    have h5 : (ev P (n + 1)).E (.var x) (upd x (.obj 3 k) (lrm [x] l)) s' = some (.obj 3 k, s') := by
      rw [ev_E]; simp [stepE, lget_upd]
    simp only [compBody, assign]
    rw [show lrm (Tg.vars (.var x)) l = lrm [x] l from by rw [Tg.vars]]
    rw [h4]
    cases p k with
    | false => rfl
    | true => dsimp only; rw [h5]; rfl
  · have : ((ks.map (V.obj 3)).filterMap fun v => match v with | .obj _ k => if p k then some (V.obj 3 k) else none | _ => none) = (ks.filter p).map (V.obj 3) := by
      rw [List.filterMap_map]
      clear h1 h2 h3 q
      induction ks with
      | nil => rfl
      | cons a r ih =>
        rw [List.filterMap_cons, ih]
        cases e : p a <;> simp [e]
    rw [this]; exact q
def mts (i : Nat) : List Nat := if i = 2 then [2] else [0, 1]
theorem c_isD {s : St} {a b : Nat} {Q : Bool → Prop} (q : Q (decide (a = b))) : W1 (cmpS s .is (.dict a) (.dict b)) Q := W1.of (show some (a == b) = _ by by_cases q : a = b <;> simp [q]) q
theorem c_isnotO {s : St} {a b : Nat} {Q : Bool → Prop} (q : Q (!decide (a = b))) : W1 (cmpS s .isnot (.obj 3 a) (.obj 3 b)) Q := W1.of (show some (!(3 == 3 && a == b)) = _ by by_cases q : a = b <;> simp [q]) q
theorem mts_filter (i : Nat) (hi : i < 3) (h : i ≠ 2) : ([0, 1, 2].filter fun j => decide (2 + tb j = 2 + tb i)) = mts i := by
  match i, hi with
  | 0, _ => decide
  | 1, _ => decide
  | 2, _ => exact absurd rfl h
section
variable {st : St} {h n : Nat} {R L : WS} {i : Nat} {G : Int → Int} {d : Nat}
theorem group_real (I : Inv true st h n R L) (hi : i < 3) {k : Nat} {Q : V → St → Prop} (q : Q (.list ((mts i).map (V.obj 3))) st) : W2 (callF P (ev P (k + 12)) 7 [.obj 3 i, .list sessL] st) Q := by
  refine C_fn (l := [(47, .obj 3 i), (49, .list sessL)]) rfl rfl ?_
  dsimp only [N7]
  walk_at "mux_r"
  refine S_ite ?_
  walk_at "mux_r"
  by_cases hi2 : i = 2
  · subst hi2
    refine W1.of (v := true) rfl ⟨fun _ => ?_, nofun⟩
    walk_at "mux_r"
    exact q
  · refine W1.of (v := false) (by unfold grp; rw [if_neg hi2]; rfl) ⟨nofun, fun _ => ?_⟩
    walk_at "mux_r"
    refine E_objs (fun j => decide (2 + tb j = 2 + tb i)) ?_
    walk_at "mux_r"
    refine ⟨[0, 1, 2], rfl, by decide, fun j hj => ?_, ?_⟩
    · have hj3 : j < 3 := by simp at hj; omega
      walk_at "mux_r"
      exact c_isD ⟨rfl, rfl⟩
    rw [mts_filter i hi hi2]
    exact q

/-! one dict handed to several sessions -/
def rens (js : List Nat) (G : Int → Int) (w : WS) : WS := js.foldl (fun w j => ren j G w) w
theorem rens_loop {k : Nat} {Q : Fl → Loc → St → Prop} : ∀ (js : List Nat) {st : St} {R : WS} {l : Loc}, Inv true st h n R L → (∀ j ∈ js, j < 3) → GoalsAt st d G → lget 46 l = some (.dict d) →
    (∀ st' l', Inv true st' h n (rens js G R) L → Q .next l' st') →
    W3 (forL P (ev P (k + 12)) (.var 47) [.expr (.meth (.var 47) 16 [.var 46])] (js.map (V.obj 3)) l st) Q
  | [], st, R, l, I, _, _, _, q => ⟨.next, l, st, by simp only [List.map_nil, forL], q st l I⟩
  | j :: js, st, R, l, I, hj, hG, hl, q => by
    have hl2 : lget 46 (upd 47 (.obj 3 j) l) = some (.dict d) := by rw [lget_upd, if_neg (by decide)]; exact hl
    have key : W3 (exB (ev P (k + 12)) [.expr (.meth (.var 47) 16 [.var 46])] (upd 47 (.obj 3 j) l) st) fun f l' s' => f = .next ∧ l' = upd 47 (.obj 3 j) l ∧ Inv true s' h n (ren j G R) L ∧ Keep st s' := by
      refine X_cons (S_expr (E_meth (E_var (by rw [lget_upd, if_pos rfl]) ?_)))
      walk_at "mux_i"
      refine E_var hl2 ?_
      walk_at "mux_r"
      refine ren_real I (hj j (.head _)) hG fun s1 I1 k1 => ?_
      walk_at "mux_r"
      exact ⟨rfl, rfl, I1, k1⟩
    obtain ⟨f, l', s', h1, rfl, rfl, I1, k1⟩ := key
    obtain ⟨f, l2, s2, h2, q⟩ := rens_loop (k := k) (Q := Q) js I1 (fun x hx => hj x (.tail _ hx)) (hG.keep k1) hl2 q
    exact ⟨f, l2, s2, by simp only [List.map_cons, forL, assign, h1, h2], q⟩
theorem ren_comm {a b : Nat} (hab : a ≠ b) (G : Int → Int) (w : WS) : ren a G (ren b G w) = ren b G (ren a G w) := by
  have h1 : ∀ {α : Type} (f : Nat → α) (x y : α), upf (upf f b y) a x = upf (upf f a x) b y := fun f x y => by
    funext j
    unfold upf
    by_cases q : j = a
    · subst q; simp [hab]
    · by_cases q2 : j = b
      · subst q2; simp [q]
      · simp [q, q2]
  have e1 : ∀ (f : Nat → Option Int) x, upf f b x a = f a := fun f x => upf_ne _ _ hab
  have e2 : ∀ (f : Nat → Option Int) x, upf f a x b = f b := fun f x => upf_ne _ _ (Ne.symm hab)
  unfold ren
  simp only [WS.sc, WS.sl, e1, e2]
  rw [h1, h1]
def others (i : Nat) : List Nat := (mts i).filter fun j => !decide (j = i)
theorem led_eq (hi : i < 3) (w : WS) : rens (i :: others i) G w = led (tb i) G w := by
  match i, hi with
  | 0, _ => rfl
  | 1, _ => exact ren_comm (by decide) G w
  | 2, _ => rfl
theorem led_eq2 (hi : i < 3) (w : WS) : rens (mts i) G w = led (tb i) G w := by
  match i, hi with
  | 0, _ => rfl
  | 1, _ => rfl
  | 2, _ => rfl
end
theorem dget_map {k j : Int} {v : V} : ∀ {es : List (Int × V)}, dget (es.map fun p => if p.1 = k then (p.1, v) else p) j = if j = k then (if es.any (fun p => p.1 = k) then some v else none) else dget es j
  | [] => by simp [dget]
  | (a, w) :: r => by
    have ih := dget_map (k := k) (j := j) (v := v) (es := r)
    unfold dget at ih ⊢
    rw [List.map_cons, List.find?_cons, List.any_cons, List.find?_cons]
    by_cases h1 : a = k
    · subst h1
      by_cases h2 : j = a
      · subst h2; simp
      · have h3 : ¬ a = j := fun e => h2 e.symm
        simp only [if_true, decide_false, h3]
        rw [ih]; simp [h2, h3]
    · rw [if_neg h1, show decide (a = k) = false from decide_eq_false h1, Bool.false_or]
      by_cases h2 : a = j
      · subst h2; simp [h1]
      · simp only [decide_false, h2]; exact ih
theorem dget_dset {es : List (Int × V)} {k j : Int} {v : V} : dget (dset es k v) j = if j = k then some v else dget es j := by
  unfold dset
  split
  · rename_i h
    rw [dget_map]
    by_cases q : j = k
    · simp only [q, if_true]; rw [if_pos h]
    · simp only [q, if_false]
  · rename_i h
    unfold dget
    rw [List.find?_append]
    by_cases q : j = k
    · subst q
      have : es.find? (fun p => decide (p.1 = j)) = none := by
        rw [List.find?_eq_none]
        intro p hp e
        exact h (List.any_eq_true.mpr ⟨p, hp, e⟩)
      rw [this]; simp
    · have : [(k, v)].find? (fun p => decide (p.1 = j)) = none := by
        rw [List.find?_cons, show decide (k = j) = false from decide_eq_false fun e => q e.symm]; rfl
      rw [this, Option.or_none, if_neg q]
theorem dset_len {es : List (Int × V)} {k : Int} {v : V} : (dset es k v).length ≤ es.length + 1 := by
  unfold dset
  split
  · rw [List.length_map]; omega
  · rw [List.length_append]; exact Nat.le_refl _

/-! making room -/
def bump (a b p : Int) : Int := if a ≤ p ∧ p < b then p + 1 else p
theorem freeFrom_in {t : Tab} : ∀ (f : Nat) (s p : Int), s ≤ p → p < freeFrom t f s → inT t (some p) = true
  | 0, s, p, h1, h2 => by unfold freeFrom at h2; omega
  | f + 1, s, p, h1, h2 => by
    unfold freeFrom at h2
    split at h2
    · rename_i h3
      by_cases q : p = s
      · subst q; exact h3
      · exact freeFrom_in f (s + 1) p (by omega) h2
    · omega
theorem bump_inj {a b x y : Int} (hx : x ≠ b) (hy : y ≠ b) (h : bump a b x = bump a b y) : x = y := by
  unfold bump at h
  split at h <;> split at h <;> omega
theorem not_key {t : Tab} (hs : Srt t) {b k : Int} (hb : inT t (some b) = false) (hk : k ∈ keys t) : k ≠ b := fun e => by
  subst e
  rw [inT_keys hs hk] at hb; cases hb
theorem bump_inj' {t : Tab} (hs : Srt t) {a b : Int} (hb : inT t (some b) = false) : ∀ x ∈ keys t, ∀ y ∈ keys t, bump a b x = bump a b y → x = y := fun x hx y hy h => bump_inj (not_key hs hb hx) (not_key hs hb hy) h
theorem opt_ext {a b : Option Nat} (h : ∀ m, a = some m ↔ b = some m) : a = b := by
  cases a with
  | none =>
    cases b with
    | none => rfl
    | some m => exact ((h m).mpr rfl)
  | some m => exact ((h m).mp rfl).symm
theorem remap_id {t : Tab} (hs : Srt t) {G : Int → Int} (hG : ∀ k ∈ keys t, G k = k) : remap t G = t := by
  have hi : ∀ a ∈ keys t, ∀ b ∈ keys t, G a = G b → a = b := fun a ha b hb e => by rw [hG a ha, hG b hb] at e; exact e
  refine srt_ext remap_srt hs fun j => opt_ext fun m => ?_
  rw [tget_remap hs hi]
  constructor
  · rintro ⟨k, hk, e⟩
    rw [hG k ((tget_isSome hs).mp (by rw [hk]; rfl))] at e
    rw [← e]; exact hk
  · intro h
    exact ⟨j, h, hG j ((tget_isSome hs).mp (by rw [h]; rfl))⟩
theorem bump_step {t : Tab} (hs : Srt t) {p b : Int} (hp : inT t (some p) = true) (hb : inT t (some b) = false) (hpb : p < b) :
    tset (p + 1) (numAt t p) (tdel (remap t (bump (p + 1) b)) p) = remap t (bump p b) := by
  have hpm := numAt_get hp
  have hkb : ∀ k m, tget t k = some m → k ≠ b := fun k m h => not_key hs hb ((tget_isSome hs).mp (by rw [h]; rfl))
  refine srt_ext (tset_srt (tdel_srt remap_srt)) remap_srt fun j => opt_ext fun m => ?_
  rw [tget_tset (tdel_srt remap_srt), tget_tdel remap_srt, tget_remap hs (bump_inj' hs hb)]
  by_cases q1 : j = p + 1
  · rw [if_pos q1]
    constructor
    · intro h
      refine ⟨p, by rw [hpm]; exact h, ?_⟩
      unfold bump; rw [if_pos (by omega)]; exact q1.symm
    · rintro ⟨k, hk, e⟩
      have h1 := hkb k m hk
      have : k = p := by unfold bump at e; split at e <;> omega
      subst this
      rw [hk] at hpm; exact hpm.symm
  · rw [if_neg q1]
    by_cases q2 : j = p
    · rw [if_pos q2]
      constructor
      · intro h; cases h
      · rintro ⟨k, hk, e⟩
        exfalso
        unfold bump at e; split at e <;> omega
    · rw [if_neg q2, tget_remap hs (bump_inj' hs hb)]
      constructor
      · rintro ⟨k, hk, e⟩
        refine ⟨k, hk, ?_⟩
        unfold bump at e ⊢
        split at e <;> split <;> omega
      · rintro ⟨k, hk, e⟩
        refine ⟨k, hk, ?_⟩
        unfold bump at e ⊢
        split at e <;> split <;> omega
theorem bump_get {t : Tab} (hs : Srt t) {p b : Int} (hp : inT t (some p) = true) (hb : inT t (some b) = false) : tget (remap t (bump (p + 1) b)) p = some (numAt t p) := by
  rw [tget_remap hs (bump_inj' hs hb)]
  refine ⟨p, numAt_get hp, ?_⟩
  unfold bump; rw [if_neg (by omega)]
def roomed (i : Nat) (s : Int) (w : WS) : WS := placed i (bump s (free (w.tab (tb i)) s)) w
section
variable {st : St} {h n : Nat} {R L : WS} {i : Nat} {s : Int} {d : Nat}
theorem keepD {full : Bool} {I : Prop} {st : St} {d : Nat} {es : List (Int × V)} (h : st.dicts[d]? = some es) {v : V} {c : Int} (hl : es.length ≤ 1000) {Q : St → Prop} (q : ({ st with dicts := st.dicts.set d (dset es c v) } : St).dicts[d]? = some (dset es c v) → Q { st with dicts := st.dicts.set d (dset es c v) }) : W1 (setI st (.dict d) (.int c) v) Q := by
  refine ⟨_, ?_, q (List.getElem?_set_self (get_lt h))⟩
  show ((st.dicts[d]?).bind _) = _
  rw [h, Option.bind_some, if_pos hl]
theorem bm_popRK (I : Inv true st h n R L) {c : Int} {m : Nat} (hm : tget (R.tab (tb i)) c = some m) {Q : V → St → Prop} (q : ∀ st', Inv true st' h n (R.st (tb i) (tdel (R.tab (tb i)) c)) L → Keep st st' → Q (.obj 2 m) st') : W2 (bmS st .pop (.dict (2 + tb i)) [.int c]) Q := by
  obtain ⟨es, h1, h2⟩ := I.dR _ (tb_lt i)
  have ht := I.tR _ (tb_lt i)
  refine ⟨_, _, ?_, q _ (I.updR (tb_lt i) (h2.del (k := c)) ht.del) (Keep.set (by have := tb_lt i; omega) _)⟩
  show ((st.dicts[2 + tb i]?).bind _) = _
  rw [h1, Option.bind_some, if_pos (by rw [h2.len]; have := ht.len; omega), h2.get ht.srt, hm]; rfl
theorem w_setRK (I : Inv true st h n R L) {c : Int} {m : Nat} (hm : m < n) (hl : (R.tab (tb i)).length < 50) {Q : St → Prop} (q : ∀ st', Inv true st' h n (R.st (tb i) (tset c m (R.tab (tb i)))) L → Keep st st' → Q st') : W1 (setI st (.dict (2 + tb i)) (.int c) (.obj 2 m)) Q := by
  obtain ⟨es, h1, h2⟩ := I.dR _ (tb_lt i)
  have ht := I.tR _ (tb_lt i)
  refine ⟨_, ?_, q _ (I.updR (tb_lt i) (h2.set ht.srt (k := c) (n := m)) (ht.set hm hl)) (Keep.set (by have := tb_lt i; omega) _)⟩
  show ((st.dicts[2 + tb i]?).bind _) = _
  rw [h1, Option.bind_some, if_pos (by rw [h2.len]; have := ht.len; omega)]; rfl
theorem rangeD_ok {a b : Int} {m : Nat} (ha : a ≤ 1000) (hb : -1000 ≤ b) (hm : a = b + m) : rangeS [.int a, .int b, .int (-1)] = some (((List.range m).map fun (k : Nat) => a - (k : Int)).map .int) := by
  show (if _ then _ else _) = _
  rw [if_pos (by omega)]
  unfold rangeD
  rw [show (a - b).toNat = m by omega, List.map_map]; rfl
theorem add_obj {s : St} {a b : List Nat} (h : a.length + b.length ≤ 1000) : binS s .add (.list (a.map (V.obj 3))) (.list (b.map (V.obj 3))) = some (.list ((a ++ b).map (V.obj 3))) := by
  show (match some (a.map (V.obj 3)), some (b.map (V.obj 3)) with
    | some xs, some ys => if xs.length + ys.length ≤ 1000 then some (V.list (xs ++ ys)) else .none
    | _, _ => .none) = _
  dsimp only
  rw [if_pos (by simpa using h), List.map_append]
theorem others_len {i : Nat} (hi : i < 3) : (others i).length ≤ 2 := by
  match i, hi with
  | 0, _ => decide
  | 1, _ => decide
  | 2, _ => decide
theorem others_lt {i : Nat} (hi : i < 3) : ∀ j ∈ i :: others i, j < 3 := by
  match i, hi with
  | 0, _ => decide
  | 1, _ => decide
  | 2, _ => decide
theorem others_filter {i : Nat} : ((others i).filter fun j => !decide (j = i)) = others i := by
  unfold others; rw [List.filter_filter]; congr 1; funext j; cases decide (j = i) <;> rfl
theorem room_real (I : Inv true st h n R L) (hi : i < 3) (hs : -900 ≤ s ∧ s ≤ 900) (hl : (R.tab (tb i)).length < 50) {k : Nat} {Q : V → St → Prop} (q : ∀ st', Inv true st' h n (roomed i s R) L → Q .none st') : W2 (callF P (ev P (k + 80)) 118 [.obj 3 i, .int s, .list ((others i).map (V.obj 3))] st) Q := by
  refine C_fn (l := [(26, .obj 3 i), (31, .int s), (45, .list ((others i).map (V.obj 3)))]) rfl rfl ?_
  dsimp only [N118]
  have ht := I.tR _ (tb_lt i)
  walk_at "mux_r"
  have I1 := I.newDict []
  have hd4 := I.dlen
  have hd1 : ({ st with dicts := st.dicts ++ [[]] } : St).dicts[st.dicts.length]? = some [] := by show (st.dicts ++ [_])[st.dicts.length]? = _; simp
  revert I1 hd1
  generalize ({ st with dicts := st.dicts ++ [[]] } : St) = s1
  generalize st.dicts.length = d at hd4
  intro I1 hd1
  refine S_for (src_range ?_)
  walk_at "mux_r"
  refine free_real I1 hi ?_
  walk_at "mux_r"
  have hfb := freeFrom_bd (t := R.tab (tb i)) (R.tab (tb i)).length s
  have hout := free_out ht.srt s
  obtain ⟨m, hm⟩ : ∃ m : Nat, free (R.tab (tb i)) s = s + m := ⟨(free (R.tab (tb i)) s - s).toNat, by unfold free; omega⟩
  have hm50 : m ≤ 50 := by unfold free at hm; omega
  refine W1.of (rangeD_ok (m := m) (by omega) (by omega) (by omega)) ?_
  refine forL_ok (fun j l s' => Inv true s' h n (R.st (tb i) (remap (R.tab (tb i)) (bump (s + m - j) (s + m)))) L ∧ (∃ es, s'.dicts[d]? = some es ∧ es.length ≤ j ∧ ∀ k, (dget es k).getD (.int k) = .int (bump (s + m - j) (s + m) k)) ∧ (l = [(26, .obj 3 i), (31, .int s), (45, .list ((others i).map (V.obj 3))), (46, .dict d)] ∨ ∃ x, l = [(26, .obj 3 i), (31, .int s), (45, .list ((others i).map (V.obj 3))), (46, .dict d), (34, x)])) _ 0 ⟨?_, ⟨[], hd1, Nat.le_refl _, fun k => ?_⟩, .inl rfl⟩ (fun j v l s' hj hI => ?_) (fun l s' hI => ?_)
  · have e : remap (R.tab (tb i)) (bump (s + m - (0 : Nat)) (s + m)) = R.tab (tb i) := remap_id ht.srt fun k _ => by unfold bump; rw [if_neg (by omega)]
    rw [e]
    exact I1.to (by unfold WS.st; rw [upf_self rfl])
  · show V.int k = _
    unfold bump; rw [if_neg (by omega)]
  · rw [Nat.zero_add] at hI ⊢
    obtain ⟨I2, ⟨es, he1, he2, he3⟩, hl2⟩ := hI
    have hj1 : j < m := by have := get_lt hj; simpa using this
    have hv : v = .int (s + m - 1 - j) := by
      rw [List.getElem?_map, List.getElem?_map, List.getElem?_range hj1] at hj
      have := Option.some.inj hj
      rw [← this]
      show V.int (free (R.tab (tb i)) s - 1 - (j : Int)) = V.int _
      congr 1; omega
    subst hv
    have hp : inT (R.tab (tb i)) (some (s + m - 1 - j)) = true := freeFrom_in (R.tab (tb i)).length s _ (by omega) (by unfold free at hm; omega)
    have hpm := numAt_get hp
    have hmn := ht.lt hpm
    have hob : inT (R.tab (tb i)) (some (s + m)) = false := by rw [← hm]; exact hout
    have e1 : s + (m : Int) - 1 - j + 1 = s + m - j := by omega
    have hg := bump_get ht.srt hp hob
    rw [e1] at hg
    have hstep := bump_step ht.srt hp hob (by omega)
    rw [e1] at hstep
    have hT : ∀ (w : WS) (t : Tab), (w.st (tb i) t).tab (tb i) = t := fun w t => upf_same _ _ _
    rcases hl2 with rfl | ⟨x, rfl⟩
    all_goals
      walk_at "mux_r"
      refine bm_popRK I2 (by rw [hT]; exact hg) fun s3 I3 k3 => ?_
      walk_at "mux_r"
      refine w_setRK I3 hmn (by
        rw [hT, hT]
        exact Nat.lt_of_le_of_lt (Nat.le_trans (tdel_len ..) remap_len) hl) fun s4 I4 k4 => ?_
      walk_at "mux_r"
      have he4 := (k3.trans k4) d es hd4 he1
      refine keepD (full := true) (I := True) he4 (by omega) fun he5 => ?_
      walk_at "mux_r"
      refine ⟨?_, ⟨_, he5, Nat.le_trans dset_len (by omega), fun k => ?_⟩, .inr ⟨_, rfl⟩⟩
      · refine (I4.ownDict hd4 _).to ?_
        rw [hT, hT, e1, hstep]
        simp only [WS.st, upf_upf]
        rw [show s + (m : Int) - ((j + 1 : Nat) : Int) = s + m - 1 - j by omega]
      · rw [dget_dset]
        by_cases q2 : k = s + m - 1 - j
        · rw [if_pos q2]
          show V.int _ = V.int _
          congr 1
          unfold bump; rw [if_pos (by omega)]; omega
        · rw [if_neg q2, he3]
          congr 1
          unfold bump
          split <;> split <;> omega
  · obtain ⟨I2, ⟨es, he1, he2, he3⟩, hl2⟩ := hI
    rw [Nat.zero_add, List.length_map, List.length_map, List.length_range] at I2 he3
    rw [show s + (m : Int) - (m : Nat) = s by omega] at I2 he3
    have hG : GoalsAt s' d (bump s (s + m)) := ⟨hd4, es, he1, he3⟩
    rcases hl2 with rfl | ⟨x, rfl⟩
    all_goals
      walk_at "mux_r"
      refine S_for (src_val ?_)
      walk_at "mux_r"
      refine E_objs (fun j => !decide (j = i)) ?_
      walk_at "mux_r"
      refine ⟨others i, rfl, Nat.le_trans (others_len hi) (by decide), fun j hj => ?_, ?_⟩
      · walk_at "mux_r"
        exact c_isnotO ⟨rfl, rfl⟩
      rw [others_filter]
      refine W1.of (add_obj (a := [i]) (by have := others_len hi; simp; omega)) ?_
      refine .inl ⟨_, .inl rfl, by have := others_len hi; simp; omega, ?_⟩
      refine rens_loop (i :: others i) I2 (fun j hj => others_lt hi j hj) hG rfl fun s5 l5 I5 => ?_
      walk_at "mux_r"
      refine q s5 (I5.to ?_)
      rw [led_eq hi]
      unfold roomed placed
      rw [hm]
end
theorem E_mapS {n x : Nat} {l : Loc} {s : St} {Q : V → St → Prop} {src : Src} {elt : PE} (f : Int → V) (h : W2 (srcS (ev P (n + 1)) src l s) fun it s1 => ∃ ks : List Int, it = .items (ks.map .int) ∧ (∀ k ∈ ks, W2 ((ev P (n + 1)).E elt (upd x (.int k) (lrm [x] l)) s1) fun b s' => b = f k ∧ s' = s1) ∧ Q (.list (ks.map f)) s1) :
    W2 ((ev P (n + 2)).E (.comp elt (.var x) src none) l s) Q := by
  obtain ⟨v, s1, h1, ks, rfl, h3, q⟩ := h
  refine E_comp ⟨_, s1, h1, ?_⟩
  refine ⟨_, s1, comp_gen (g := fun v => match v with | .int k => some (f k) | _ => none) fun v hv => ?_, ?_⟩
  · obtain ⟨k, hk, rfl⟩ := List.mem_map.mp hv
    obtain ⟨b, s', h4, rfl, rfl⟩ := h3 k hk
    simp only [compBody, assign]
    rw [show lrm (Tg.vars (.var x)) l = lrm [x] l from by rw [Tg.vars]]
    rw [h4]
  · have : ((ks.map V.int).filterMap fun v => match v with | .int k => some (f k) | _ => none) = ks.map f := by
      rw [List.filterMap_map]
      clear h1 h3 q
      induction ks with
      | nil => rfl
      | cons a r ih => rw [List.filterMap_cons, ih]; rfl
    rw [this]; exact q
/-- a dict made of pairs -/
theorem bi_dict {s : St} {ks : List Int} {G F : Int → Int} (hk : ks.length ≤ 1000) (hn : (ks.map F).Nodup) {Q : V → St → Prop}
    (q : ({ s with dicts := s.dicts ++ [ks.map fun k => (F k, .int (G k))] } : St).dicts[s.dicts.length]? = some (ks.map fun k => (F k, .int (G k))) → Q (.dict s.dicts.length) { s with dicts := s.dicts ++ [ks.map fun k => (F k, .int (G k))] }) : W2 (biS s .dict (.list (ks.map fun k => .tup [.int (F k), .int (G k)]))) Q := by
  refine ⟨.dict s.dicts.length, { s with dicts := s.dicts ++ [ks.map fun k => (F k, .int (G k))] }, ?_, q (by show (s.dicts ++ [_])[s.dicts.length]? = _; simp)⟩
  show (if _ then _ else _) = _
  rw [if_pos (by simpa using hk), pairsV_map (f := fun k => .int (G k)), Option.map_some, dmerge_app (by rw [List.map_map]; exact hn) (fun p _ hm => by cases hm)]; rfl
section
variable {st : St} {h n : Nat} {R L : WS} {i : Nat} {s : Int} {d : Nat}
theorem while_room (I : Inv true st h n R L) {k : Nat} {z : V} {Q : Fl → Loc → St → Prop} : ∀ (f : Nat) (s : Int), ge (L.tab (tb i)) s ≤ f → Q .next [(60, .sd 0), (53, .int i), (31, z), (62, .dict (tb i)), (42, .int (freeFrom (L.tab (tb i)) f s))] st →
    W3 ((ev P (k + f + 4)).S (.while (.cmp .isin (.var 42) (.var 62)) [.asg (.var 42) (.bin .add (.var 42) (.const (.int 1)))]) [(60, .sd 0), (53, .int i), (31, z), (62, .dict (tb i)), (42, .int s)] st) Q
  | 0, s, hf, q => by
    have h1 := freeFrom_out (I.tL _ (tb_lt i)).srt 0 s hf
    refine S_while ?_
    walk_at "mux_r"
    refine ⟨fun h2 => q, fun h2 => ?_⟩
    unfold freeFrom at h1
    rw [h1] at h2; cases h2
  | f + 1, s, hf, q => by
    refine S_while ?_
    walk_at "mux_r"
    refine ⟨fun h2 => ?_, fun h2 => ?_⟩
    · unfold freeFrom at q
      rw [if_neg (by rw [h2]; exact nofun)] at q; exact q
    · walk_at "mux_r"
      refine while_room I f (s + 1) (by have := ge_lt (I.tL _ (tb_lt i)).srt h2; omega) ?_
      unfold freeFrom at q
      rw [if_pos h2] at q; exact q
theorem room_law (I : Inv true st h n R L) (hi : i < 3) (hs : -900 ≤ s ∧ s ≤ 900) {k : Nat} {Q : V → St → Prop} (q : ∀ st', Inv true st' h n R (roomed i s L) → Q .none st') : W2 (callF P (ev P (k + 80)) 19 [.sd 0, .int i, .int s] st) Q := by
  refine C_fn (l := [(60, .sd 0), (53, .int i), (31, .int s)]) rfl rfl ?_
  dsimp only [N19]
  have ht := I.tL _ (tb_lt i)
  have hlen := ht.len
  walk_at "mux_r"
  rw [show k + 80 = (k + (76 - (L.tab (tb i)).length)) + (L.tab (tb i)).length + 4 by omega]
  refine while_room I _ s (ge_le _ _) ?_
  rw [show (k + (76 - (L.tab (tb i)).length)) + (L.tab (tb i)).length + 4 = k + 80 by omega]
  have hfb := freeFrom_bd (t := L.tab (tb i)) (L.tab (tb i)).length s
  obtain ⟨m, hm⟩ : ∃ m : Nat, free (L.tab (tb i)) s = s + m := ⟨(free (L.tab (tb i)) s - s).toNat, by unfold free; omega⟩
  have hm50 : m ≤ 50 := by unfold free at hm; omega
  walk_at "mux_r"
  refine E_mapS (fun p => .tup [.int p, .int (p + 1)]) ?_
  walk_at "mux_r"
  refine W1.of (range_ok (m := m) (by omega) (by unfold free at hm; omega) hm) ?_
  refine ⟨_, rfl, fun p hp => ?_, ?_⟩
  · walk_at "mux_r"
    exact ⟨rfl, rfl⟩
  have hnd : (((List.range m).map fun (k : Nat) => s + (k : Int)).map fun p => p).Nodup := by
    rw [List.map_id', List.nodup_iff_pairwise_ne, List.pairwise_map]
    exact List.Pairwise.imp (fun hab => by omega) List.pairwise_lt_range
  refine bi_dict (F := fun p => p) (G := fun p => p + 1) (by simp; omega) hnd fun hd => ?_
  walk_at "mux_r"
  have I2 := I.newDict (((List.range m).map fun (k : Nat) => s + (k : Int)).map fun p => (p, V.int (p + 1)))
  have hG : GoalsAt { st with dicts := st.dicts ++ [((List.range m).map fun (k : Nat) => s + (k : Int)).map fun p => (p, V.int (p + 1))] } st.dicts.length (bump s (s + m)) := by
    refine ⟨I.dlen, _, hd, fun k => ?_⟩
    unfold bump
    split
    · rename_i hk
      rw [(dget_iff (v := V.int (k + 1)) (by rw [List.map_map]; exact hnd)).mpr]
      · rfl
      · exact List.mem_map.mpr ⟨k, List.mem_map.mpr ⟨(k - s).toNat, List.mem_range.mpr (by omega), by omega⟩, rfl⟩
    · rename_i hk
      cases e : dget (((List.range m).map fun (k : Nat) => s + (k : Int)).map fun p => (p, V.int (p + 1))) k with
      | none => rfl
      | some v =>
        have := (dget_iff (by rw [List.map_map]; exact hnd)).mp e
        obtain ⟨p, hp, e2⟩ := List.mem_map.mp this
        obtain ⟨j, hj, e3⟩ := List.mem_map.mp hp
        have := List.mem_range.mp hj
        have : p = k := congrArg Prod.fst e2
        omega
  refine placed_law I2 hG fun s3 I3 => ?_
  walk_at "mux_r"
  refine q s3 (I3.to2 ?_)
  unfold roomed
  rw [hm]
end
def pairN : Int → List Int → List (Int × V)
  | _, [] => []
  | s, k :: r => (k, .int s) :: pairN (s + 1) r
def lookN : Int → List Int → Int → Int
  | _, [], k => k
  | s, a :: r, k => if a = k then s else lookN (s + 1) r k
theorem pairN_keys : ∀ {s : Int} {ks : List Int}, (pairN s ks).map (·.1) = ks
  | _, [] => rfl
  | s, k :: r => by unfold pairN; rw [List.map_cons, pairN_keys]
theorem pairN_look : ∀ {s : Int} {ks : List Int} {k : Int}, (dget (pairN s ks) k).getD (.int k) = .int (lookN s ks k)
  | _, [], _ => rfl
  | s, a :: r, k => by
    have ih := pairN_look (s := s + 1) (ks := r) (k := k)
    show (Option.map (fun x : Int × V => x.2) (List.find? (fun p => decide (p.1 = k)) ((a, .int s) :: pairN (s + 1) r))).getD (.int k) = .int (if a = k then s else lookN (s + 1) r k)
    rw [List.find?_cons]
    by_cases q : a = k
    · simp [q]
    · rw [if_neg q, show decide ((a, V.int s).1 = k) = false from decide_eq_false q]; exact ih
theorem lookN_at : ∀ {s : Int} {ks : List Int} {j : Nat} {k : Int}, ks.Nodup → ks[j]? = some k → lookN s ks k = s + j
  | _, [], _, _, _, h => by cases h
  | s, a :: r, 0, k, _, h => by
    have : a = k := Option.some.inj h
    unfold lookN; rw [if_pos this]; simp
  | s, a :: r, j + 1, k, hn, h => by
    have hn' := List.nodup_cons.mp hn
    have h : r[j]? = some k := h
    have : k ∈ r := List.mem_of_getElem? h
    unfold lookN
    rw [if_neg (show ¬ a = k from fun e => hn'.1 (e ▸ this)), lookN_at hn'.2 h]
    rw [Int.natCast_succ]; omega
def tfoldN (f : Int → Nat) : Int → List Int → Tab → Tab
  | _, [], acc => acc
  | s, k :: r, acc => tfoldN f (s + 1) r (tset s (f k) acc)
theorem tfoldN_eq {f : Int → Nat} {G : Int → Int} : ∀ {ks : List Int} {s : Int} {acc : Tab}, (∀ j k, ks[j]? = some k → G k = s + (j : Nat)) → tfoldN f s ks acc = tfold G f ks acc
  | [], _, _, _ => rfl
  | k :: r, s, acc, h => by
    have h0 := h 0 k rfl
    unfold tfoldN
    rw [tfoldN_eq (G := G) fun j x hx => by
      have := h (j + 1) x hx
      rw [Int.natCast_succ] at this; omega]
    show _ = tfold G f r (tset (G k) (f k) acc)
    rw [h0]; simp
theorem pairN_len : ∀ {s : Int} {ks : List Int}, (pairN s ks).length = ks.length
  | _, [] => rfl
  | s, k :: r => by unfold pairN; rw [List.length_cons, pairN_len]; rfl
def renumd (i : Nat) (s : Int) (w : WS) : WS := placed i (lookN s (keys (w.tab (tb i)))) w
def mts0 (i : Nat) : Nat := if i = 2 then 2 else 0
theorem mts0_lt (i : Nat) : mts0 i < 3 := by unfold mts0; split <;> decide
theorem tb_mts0 (i : Nat) (hi : i < 3) : tb (mts0 i) = tb i := by
  match i, hi with
  | 0, _ => rfl
  | 1, _ => rfl
  | 2, _ => rfl
theorem mts_head (i : Nat) : at? ((mts i).map (V.obj 3)) 0 = some (.obj 3 (mts0 i)) := by
  unfold mts mts0
  split <;> rfl
theorem mts_lt {i : Nat} : ∀ j ∈ mts i, j < 3 := by
  unfold mts
  split <;> decide
theorem mts_len {i : Nat} : (mts i).length ≤ 2 := by
  unfold mts
  split <;> decide
section
variable {st : St} {h n : Nat} {R L : WS} {i : Nat} {s : Int} {d : Nat}
theorem renum_loop (hd4 : 4 ≤ d) {f : Int → Nat} {k : Nat} {A B : V} {Q : Fl → Loc → St → Prop} : ∀ (ks : List Int) (j : Nat) {st : St} {acc : Tab} {es : List (Int × V)} {l : Loc},
    Inv true st h n (R.st (tb i) acc) L → st.dicts[d]? = some es → es.length + ks.length ≤ 50 → acc.length + ks.length ≤ 50 → (∀ k ∈ ks, f k < n) →
    (l = [(49, A), (33, .int s), (23, .dict (2 + tb i)), (46, .dict d), (38, B)] ∨ ∃ x y z, l = [(49, A), (33, .int s), (23, .dict (2 + tb i)), (46, .dict d), (38, B), (39, x), (31, y), (32, z)]) →
    (∀ st' l', Inv true st' h n (R.st (tb i) (tfoldN f (s + j) ks acc)) L → st'.dicts[d]? = some (dmerge es (pairN (s + j) ks)) →
      (l' = [(49, A), (33, .int s), (23, .dict (2 + tb i)), (46, .dict d), (38, B)] ∨ ∃ x y z, l' = [(49, A), (33, .int s), (23, .dict (2 + tb i)), (46, .dict d), (38, B), (39, x), (31, y), (32, z)]) → Q .next l' st') →
    W3 (forL P (ev P (k + 12)) (.tup [.var 39, .tup [.var 31, .var 32]]) [.asg (.idx (.var 46) (.var 31)) (.bin .add (.var 33) (.var 39)), .asg (.idx (.var 23) (.bin .add (.var 33) (.var 39))) (.var 32)] (enumFrom j (ks.map fun k => .tup [.int k, .obj 2 (f k)])) l st) Q
  | [], j, st, acc, es, l, I, hd, _, _, _, hl, q => ⟨.next, l, st, by simp only [List.map_nil, enumFrom, forL], q st l I hd hl⟩
  | c :: ks, j, st, acc, es, l, I, hd, hes, hac, hf, hl, q => by
    have hT : ∀ (w : WS) (t : Tab), (w.st (tb i) t).tab (tb i) = t := fun w t => upf_same _ _ _
    have key : W2 (assign P (ev P (k + 12)) (.tup [.var 39, .tup [.var 31, .var 32]]) (.tup [.int (j : Nat), .tup [.int c, .obj 2 (f c)]]) l st) fun l s1 => W3 (exB (ev P (k + 12)) [.asg (.idx (.var 46) (.var 31)) (.bin .add (.var 33) (.var 39)), .asg (.idx (.var 23) (.bin .add (.var 33) (.var 39))) (.var 32)] l s1) fun fl l' s' =>
        fl = .next ∧ Inv true s' h n (R.st (tb i) (tset (s + j) (f c) acc)) L ∧ s'.dicts[d]? = some (dset es c (.int (s + j))) ∧ ∃ x y z, l' = [(49, A), (33, .int s), (23, .dict (2 + tb i)), (46, .dict d), (38, B), (39, x), (31, y), (32, z)] := by
      rcases hl with rfl | ⟨x, y, z, rfl⟩
      all_goals
        walk_at "mux_r"
        refine keepD (full := true) (I := True) hd (by omega) fun he5 => ?_
        walk_at "mux_r"
        refine w_setRK (I.ownDict hd4 _) (hf c (.head _)) (by rw [hT]; rw [List.length_cons] at hac; omega) fun s2 I2 k2 => ?_
        walk_at "mux_r"
        refine ⟨rfl, I2.to ?_, k2 _ _ hd4 he5, _, _, _, rfl⟩
        rw [hT]
        simp only [WS.st, upf_upf]
    obtain ⟨l1, s1, h1, fl, l2, s2, h2, rfl, I2, hd2, hl2⟩ := key
    have hlen := dset_len (es := es) (k := c) (v := .int (s + j))
    have hlen2 := tset_len (s + j) (f c) acc
    obtain ⟨fl, l3, s3, h3, q⟩ := renum_loop hd4 (f := f) (k := k) (A := A) (B := B) (Q := Q) ks (j + 1) I2 hd2 (by rw [List.length_cons] at hes; omega) (by rw [List.length_cons] at hac; omega) (fun x hx => hf x (.tail _ hx)) (.inr hl2) (fun st' l' I' hd' hl' => q st' l' (by
      unfold tfoldN
      rw [show s + (j : Int) + 1 = s + ((j + 1 : Nat) : Int) by omega]; exact I') (by
      unfold pairN
      rw [show s + (j : Int) + 1 = s + ((j + 1 : Nat) : Int) by omega]; exact hd') hl')
    exact ⟨fl, l3, s3, by simp only [List.map_cons, enumFrom, forL, h1, h2, h3], q⟩
theorem enum_len : ∀ (j : Nat) (xs : List V), (enumFrom j xs).length = xs.length
  | _, [] => rfl
  | j, x :: r => by unfold enumFrom; rw [List.length_cons, enum_len, List.length_cons]
theorem renum_real (I : Inv true st h n R L) (hi : i < 3) {k : Nat} {Q : V → St → Prop} (q : ∀ st', Inv true st' h n (renumd i s R) L → Q .none st') : W2 (callF P (ev P (k + 40)) 3 [.list ((mts i).map (V.obj 3)), .int s] st) Q := by
  refine C_fn (l := [(49, .list ((mts i).map (V.obj 3))), (33, .int s)]) rfl rfl ?_
  dsimp only [N3]
  have ht := I.tR _ (tb_lt i)
  have hlen := ht.len
  walk_at "mux_r"
  refine w_at 0 (mts_head i) ?_
  refine w_sess_tab I (mts0_lt i) ?_
  rw [tb_mts0 i hi]
  walk_at "mux_r"
  have I1 := I.newDict []
  have hd4 := I.dlen
  have hd1 : ({ st with dicts := st.dicts ++ [[]] } : St).dicts[st.dicts.length]? = some [] := by show (st.dicts ++ [_])[st.dicts.length]? = _; simp
  revert I1 hd1
  generalize ({ st with dicts := st.dicts ++ [[]] } : St) = s1
  generalize st.dicts.length = d at hd4
  intro I1 hd1
  walk_at "mux_r"
  refine E_mapK (fun k => .tup [.int k, .obj 2 (numAt (R.tab (tb i)) k)]) ?_
  walk_at "mux_r"
  refine ⟨_, rfl, by rw [keys_len]; omega, fun k hk => ?_, ?_⟩
  · have hkm := numAt_get (inT_keys ht.srt hk)
    walk_at "mux_r"
    exact ⟨rfl, rfl⟩
  walk_at "mux_r"
  obtain ⟨es, he1, he2⟩ := I1.dR _ (tb_lt i)
  refine W2.of (v := .none) (s := { s1 with dicts := s1.dicts.set (2 + tb i) [] }) ?_ ?_
  · show ((s1.dicts[2 + tb i]?).bind _) = _
    rw [he1, Option.bind_some, if_pos (by rw [he2.len]; omega)]
  have I2 := I1.updR (tb_lt i) (es := []) (t := []) Rep.nil ⟨srt_nil, by simp, fun p hp => by cases hp⟩
  have hd2 : ({ s1 with dicts := s1.dicts.set (2 + tb i) [] } : St).dicts[d]? = some [] := Keep.set (by have := tb_lt i; omega) [] d _ hd4 hd1
  revert I2 hd2
  generalize ({ s1 with dicts := s1.dicts.set (2 + tb i) [] } : St) = s2
  intro I2 hd2
  walk_at "mux_r"
  refine S_for (src_enum ?_)
  walk_at "mux_r"
  refine ⟨_, rfl, by rw [List.length_map, keys_len]; omega, ?_⟩
  refine renum_loop (f := numAt (R.tab (tb i))) (acc := []) (es := []) (s := s) hd4 (keys (R.tab (tb i))) 0 I2 hd2 (by rw [keys_len]; show 0 + _ ≤ 50; omega) (by rw [keys_len]; show 0 + _ ≤ 50; omega) (fun k hk => ht.lt (numAt_get (inT_keys ht.srt hk))) (.inl rfl) fun s3 l3 I3 hd3 hl3 => ?_
  have e0 : s + ((0 : Nat) : Int) = s := by simp
  rw [e0] at I3 hd3
  rw [tfoldN_eq (G := lookN s (keys (R.tab (tb i)))) fun j k hk => lookN_at (keys_nodup ht.srt) hk] at I3
  rw [dmerge_app (by rw [pairN_keys]; exact keys_nodup ht.srt) (fun p _ hm => by cases hm)] at hd3
  have hG : GoalsAt s3 d (lookN s (keys (R.tab (tb i)))) := ⟨hd4, _, hd3, fun k => pairN_look⟩
  rcases hl3 with rfl | ⟨x, y, z, rfl⟩
  all_goals
    walk_at "mux_r"
    refine S_for (src_val ?_)
    walk_at "mux_r"
    refine .inl ⟨_, .inl rfl, by rw [List.length_map]; have := mts_len (i := i); omega, ?_⟩
    refine rens_loop (mts i) I3 mts_lt hG rfl fun s5 l5 I5 => ?_
    walk_at "mux_r"
    refine q s5 (I5.to ?_)
    rw [led_eq2 hi]; rfl
end
def single (x y : Int) : Int → Int := fun k => if k = x then y else k
theorem single_inj {t : Tab} (hs : Srt t) {x y : Int} (hy : inT t (some y) = false) : ∀ a ∈ keys t, ∀ b ∈ keys t, single x y a = single x y b → a = b := fun a ha b hb h => by
  have h1 := not_key hs hy ha
  have h2 := not_key hs hy hb
  unfold single at h
  split at h <;> split at h <;> omega
theorem single_remap {t : Tab} (hs : Srt t) {x y : Int} {m : Nat} (hx : tget t x = some m) (hy : inT t (some y) = false) : tset y m (tdel t x) = remap t (single x y) := by
  have hk : ∀ k v, tget t k = some v → k ≠ y := fun k v h => not_key hs hy ((tget_isSome hs).mp (by rw [h]; rfl))
  refine srt_ext (tset_srt (tdel_srt hs)) remap_srt fun j => opt_ext fun v => ?_
  rw [tget_tset (tdel_srt hs), tget_tdel hs, tget_remap hs (single_inj hs hy)]
  have hxy := hk x m hx
  by_cases q1 : j = y
  · rw [if_pos q1]
    constructor
    · intro h
      refine ⟨x, by rw [hx]; exact h, ?_⟩
      unfold single; rw [if_pos rfl]; exact q1.symm
    · rintro ⟨k, h1, h2⟩
      have := hk k v h1
      have : k = x := by unfold single at h2; split at h2 <;> omega
      subst this
      rw [hx] at h1; exact h1
  · rw [if_neg q1]
    by_cases q2 : j = x
    · rw [if_pos q2]
      constructor
      · intro h; cases h
      · rintro ⟨k, h1, h2⟩
        exfalso
        unfold single at h2; split at h2 <;> omega
    · rw [if_neg q2]
      constructor
      · intro h
        exact ⟨j, h, by unfold single; rw [if_neg q2]⟩
      · rintro ⟨k, h1, h2⟩
        unfold single at h2
        split at h2
        · omega
        · rw [← h2]; exact h1
def exch (i : Nat) (a : Int) (j : Nat) (b : Int) (w : WS) : WS :=
  if inT (w.tab (tb i)) (some a) && inT (w.tab (tb j)) (some b) then
    let w1 := w.st (tb i) (tset a (numAt (w.tab (tb j)) b) (w.tab (tb i)))
    w1.st (tb j) (tset b (numAt (w.tab (tb i)) a) (w1.tab (tb j)))
  else w
section
variable {st : St} {h n : Nat} {R L : WS} {i j : Nat} {s x y : Int} {d : Nat} {g : Option Int} {b : Bool}
theorem st_tab_len {w : WS} {i j : Nat} {c : Int} {m : Nat} {B : Nat} (h1 : (w.tab (tb i)).length ≤ B) (h2 : (w.tab (tb j)).length ≤ B) : ((w.st (tb i) (tset c m (w.tab (tb i)))).tab (tb j)).length ≤ B + 1 := by
  show (upf w.tab (tb i) _ (tb j)).length ≤ _
  unfold upf
  split
  · exact Nat.le_trans (tset_len ..) (by omega)
  · omega
theorem swap_real (I : Inv true st h n R L) (hi : i < 3) (hj : j < 3) (hl1 : (R.tab (tb i)).length ≤ 40) (hl2 : (R.tab (tb j)).length ≤ 40) {k : Nat} {Q : V → St → Prop} (q : ∀ st', Inv true st' h n (exch i x j y R) L → Q (.bool (inT (R.tab (tb i)) (some x) && inT (R.tab (tb j)) (some y))) st') : W2 (callF P (ev P (k + 40)) 5 [.obj 3 i, .int x, .obj 3 j, .int y] st) Q := by
  refine C_fn (l := [(53, .obj 3 i), (31, .int x), (54, .obj 3 j), (52, .int y)]) rfl rfl ?_
  dsimp only [N5]
  walk_at "mux_r"
  refine S_ite (B_or ?_)
  walk_at "mux_r"
  have bad : (inT (R.tab (tb i)) (some x) && inT (R.tab (tb j)) (some y)) = false → Q (.bool false) st := fun e => by
    have := q st
    rw [e] at this
    refine this (I.to ?_)
    unfold exch; rw [e]; rfl
  refine ⟨fun h1 => ⟨fun _ => ?_, nofun⟩, fun h1 => ?_⟩
  · walk_at "mux_r"
    exact bad (by simp at h1; simp [h1])
  walk_at "mux_r"
  refine ⟨fun h2 => ?_, fun h2 => ?_⟩
  · walk_at "mux_r"
    exact bad (by simp at h2; simp [h2])
  · have h3 : inT (R.tab (tb i)) (some x) = true := by simpa using h1
    have h4 : inT (R.tab (tb j)) (some y) = true := by simpa using h2
    have h5 := numAt_get h3
    have h6 := numAt_get h4
    walk_at "mux_r"
    refine w_setR I ((I.tR _ (tb_lt j)).lt h6) (by omega) fun s1 I1 => ?_
    walk_at "mux_r"
    refine w_setR I1 ((I.tR _ (tb_lt i)).lt h5) (Nat.lt_of_le_of_lt (st_tab_len hl1 hl2) (by decide)) fun s2 I2 => ?_
    walk_at "mux_r"
    have := q s2
    rw [h3, h4] at this
    refine this (I2.to ?_)
    unfold exch; rw [h3, h4]; rfl
theorem swap_law (I : Inv true st h n R L) (hi : i < 3) (hj : j < 3) (hl1 : (L.tab (tb i)).length ≤ 40) (hl2 : (L.tab (tb j)).length ≤ 40) {k : Nat} {Q : V → St → Prop} (q : ∀ st', Inv true st' h n R (exch i x j y L) → Q (.bool (inT (L.tab (tb i)) (some x) && inT (L.tab (tb j)) (some y))) st') : W2 (callF P (ev P (k + 40)) 18 [.sd 0, .int i, .int x, .int j, .int y] st) Q := by
  refine C_fn (l := [(60, .sd 0), (53, .int i), (31, .int x), (54, .int j), (52, .int y)]) rfl rfl ?_
  dsimp only [N18]
  walk_at "mux_r"
  refine S_ite (B_or ?_)
  walk_at "mux_r"
  have bad : (inT (L.tab (tb i)) (some x) && inT (L.tab (tb j)) (some y)) = false → Q (.bool false) st := fun e => by
    have := q st
    rw [e] at this
    refine this (I.to2 ?_)
    unfold exch; rw [e]; rfl
  refine ⟨fun h1 => ⟨fun _ => ?_, nofun⟩, fun h1 => ?_⟩
  · walk_at "mux_r"
    exact bad (by simp at h1; simp [h1])
  walk_at "mux_r"
  refine ⟨fun h2 => ?_, fun h2 => ?_⟩
  · walk_at "mux_r"
    exact bad (by simp at h2; simp [h2])
  · have h3 : inT (L.tab (tb i)) (some x) = true := by simpa using h1
    have h4 : inT (L.tab (tb j)) (some y) = true := by simpa using h2
    have h5 := numAt_get h3
    have h6 := numAt_get h4
    walk_at "mux_r"
    refine w_setL I ((I.tL _ (tb_lt j)).lt h6) (by omega) fun s1 I1 => ?_
    walk_at "mux_r"
    refine w_setL I1 ((I.tL _ (tb_lt i)).lt h5) (Nat.lt_of_le_of_lt (st_tab_len hl1 hl2) (by decide)) fun s2 I2 => ?_
    walk_at "mux_r"
    have := q s2
    rw [h3, h4] at this
    refine this (I2.to2 ?_)
    unfold exch; rw [h3, h4]; rfl
theorem link_real {m : Nat} (I : Inv true st h n R L) (hi : i < 3) (hm : m < n) (hl : (R.tab (tb i)).length < 50) {k : Nat} {Q : V → St → Prop} (q : ∀ st', Inv true st' h n (added i m g s b R) L → Q (oV (addedV i g s R)) st') : W2 (callF P (ev P (k + 76)) 6 [.obj 2 m, .obj 3 i, oV g, .int s, .bool b] st) Q := by
  refine C_fn (l := [(32, .obj 2 m), (51, .obj 3 i), (52, oV g), (33, .int s), (35, .bool b)]) rfl rfl ?_
  dsimp only [N6]
  walk_at "mux_r"
  refine added_real I hi hm hl fun s1 I1 => ?_
  exact q s1 I1
/-! move -/
def movedW (i : Nat) (x : Int) (j : Nat) (g : Option Int) (s : Int) (b : Bool) (w : WS) : WS :=
  if !inT (w.tab (tb i)) (some x) || inT (w.tab (tb j)) g then w
  else if tb i = tb j then (if b then shown j (place j w g s) (placed i (single x (place j w g s)) w) else placed i (single x (place j w g s)) w)
  else added j (numAt (w.tab (tb i)) x) g s b (taken i x w)
def movedV (i : Nat) (x : Int) (j : Nat) (g : Option Int) (s : Int) (b : Bool) (w : WS) : Option Int :=
  if !inT (w.tab (tb i)) (some x) || inT (w.tab (tb j)) g then none
  else if tb i = tb j then some (place j w g s)
  else addedV j g s (taken i x w)
theorem E_d1 (I : Inv true st h n R L) {a c n' : Nat} {l : Loc} {Q : V → St → Prop} (ha : lget a l = some (.int x)) (hc : lget c l = some (.int y)) (q : ∀ st' d, Inv true st' h n R L → Keep st st' → GoalsAt st' d (single x y) → Q (.dict d) st') : W2 ((ev P (n' + 2)).E (.dict1 (.var a) (.var c)) l st) Q := by
  have h1 : ({ st with dicts := st.dicts ++ [[]] } : St).dicts[st.dicts.length]? = some [] := by show (st.dicts ++ [_])[st.dicts.length]? = _; simp
  refine E_dict1 (E_var ha (ex_int (E_var hc ⟨h1, q _ _ ((I.newDict []).ownDict I.dlen _) ?_ ⟨I.dlen, _, List.getElem?_set_self (get_lt h1), fun k => ?_⟩⟩)))
  · intro d es hd e
    have := get_lt e
    show ((st.dicts ++ [[]]).set st.dicts.length _)[d]? = _
    rw [List.getElem?_set_ne (by omega)]
    exact (get_app this).trans e
  · unfold dget single
    rw [List.find?_cons]
    by_cases q : k = x
    · subst q; simp
    · have q' : ¬ x = k := fun e => q e.symm
      simp [q, q']
theorem move_loop {k : Nat} {Q : Fl → Loc → St → Prop} : ∀ (js : List Nat) {st : St} {R : WS} {l : Loc}, Inv true st h n R L → (∀ j ∈ js, j < 3) → lget 50 l = some (.obj 3 i) → lget 31 l = some (.int x) → lget 34 l = some (.int y) →
    (∀ st' l', Inv true st' h n (rens (js.filter fun j => !decide (j = i)) (single x y) R) L → (∀ z, z ≠ 47 → lget z l' = lget z l) → Q .next l' st') →
    W3 (forL P (ev P (k + 16)) (.var 47) [.ite (.cmp .isnot (.var 47) (.var 50)) [.expr (.meth (.var 47) 16 [.dict1 (.var 31) (.var 34)])] []] (js.map (V.obj 3)) l st) Q
  | [], st, R, l, I, _, _, _, _, q => ⟨.next, l, st, by simp only [List.map_nil, forL], q st l I fun _ _ => rfl⟩
  | j :: js, st, R, l, I, hj, h50, h31, h34, q => by
    have hl2 : ∀ z, z ≠ 47 → lget z (upd 47 (.obj 3 j) l) = lget z l := fun z hz => by rw [lget_upd, if_neg hz]
    have key : W3 (exB (ev P (k + 16)) [.ite (.cmp .isnot (.var 47) (.var 50)) [.expr (.meth (.var 47) 16 [.dict1 (.var 31) (.var 34)])] []] (upd 47 (.obj 3 j) l) st) fun f l' s' => f = .next ∧ l' = upd 47 (.obj 3 j) l ∧ Inv true s' h n (if j = i then R else ren j (single x y) R) L := by
      refine X_cons (S_ite (B_cmp (E_var (by rw [lget_upd, if_pos rfl]) (E_var (by rw [hl2 _ (by decide)]; exact h50) (c_isnotO ⟨fun hji => ?_, fun hji => ?_⟩)))))
      · refine X_cons (S_expr (E_meth (E_var (by rw [lget_upd, if_pos rfl]) (mt16 (L_cons (E_d1 I (by rw [hl2 _ (by decide)]; exact h31) (by rw [hl2 _ (by decide)]; exact h34) fun s1 d I1 k1 hG => ?_))))))
        walk_at "mux_r"
        refine ren_real I1 (hj j (.head _)) hG fun s2 I2 k2 => ?_
        walk_at "mux_r"
        refine ⟨rfl, rfl, I2.to ?_⟩
        rw [if_neg (by simpa using hji)]
      · walk_at "mux_r"
        refine ⟨rfl, rfl, I.to ?_⟩
        rw [if_pos (by simpa using hji)]
    obtain ⟨f, l', s', h1, rfl, rfl, I1⟩ := key
    obtain ⟨f, l2, s2, h2, q⟩ := move_loop (k := k) (Q := Q) js I1 (fun z hz => hj z (.tail _ hz)) (by rw [hl2 _ (by decide)]; exact h50) (by rw [hl2 _ (by decide)]; exact h31) (by rw [hl2 _ (by decide)]; exact h34) (fun st' l' I' hl' => q st' l' (by
      rw [List.filter_cons]
      by_cases e : j = i
      · rw [if_neg (by simp [e])]
        rw [if_pos e] at I'; exact I'
      · rw [if_pos (by simp [e])]
        rw [if_neg e] at I'; exact I') (fun z hz => (hl' z hz).trans (hl2 z hz)))
    exact ⟨f, l2, s2, by simp only [List.map_cons, forL, assign, h1, h2], q⟩
end
theorem others_move {i j : Nat} (hi : i < 3) (hj : j < 3) (e : tb i = tb j) : ((j :: ((mts i).filter fun k => !decide (k = j))).filter fun k => !decide (k = i)) = others i := by
  match i, hi, j, hj with
  | 0, _, 0, _ => rfl
  | 0, _, 1, _ => rfl
  | 0, _, 2, _ => cases e
  | 1, _, 0, _ => rfl
  | 1, _, 1, _ => rfl
  | 1, _, 2, _ => cases e
  | 2, _, 0, _ => cases e
  | 2, _, 1, _ => cases e
  | 2, _, 2, _ => rfl
theorem tb_eq (i j : Nat) : (tb i = tb j) ∨ ¬ (tb i = tb j) := Classical.em _
theorem inT_none2 {t : Tab} : inT t none = false := rfl
theorem settle_cur_tab (i k : Nat) (w : WS) : (settle i w).tab (tb k) = w.tab (tb k) := by rw [settle_tab]
theorem taken_tab (i k : Nat) (x : Int) (w : WS) (h : ¬ tb i = tb k) : (taken i x w).tab (tb k) = w.tab (tb k) := by
  unfold taken
  rw [settle_tab]
  exact upf_ne _ _ (fun e => h e.symm)
section
variable {st : St} {h n : Nat} {R L : WS} {i j : Nat} {s x y : Int} {d : Nat} {g : Option Int} {b : Bool}
theorem move_real (I : Inv true st h n R L) (hi : i < 3) (hj : j < 3) (hl : (R.tab (tb j)).length < 50) {k : Nat} {Q : V → St → Prop} (q : ∀ st', Inv true st' h n (movedW i x j g s b R) L → Q (oV (movedV i x j g s b R)) st') :
    W2 (callF P (ev P (k + 80)) 4 [.obj 3 i, .int x, .obj 3 j, oV g, .int s, .bool b, .list ((mts i).map (V.obj 3))] st) Q := by
  refine C_fn (l := [(50, .obj 3 i), (31, .int x), (51, .obj 3 j), (52, oV g), (33, .int s), (35, .bool b), (45, .list ((mts i).map (V.obj 3)))]) rfl rfl ?_
  dsimp only [N4]
  walk_at "mux_r"
  refine S_ite (W2.to (v := (!inT (R.tab (tb i)) (some x) || inT (R.tab (tb j)) g)) (s := st) (B_or ?_) ⟨fun h1 => ?_, fun h1 => ?_⟩)
  · walk_at "mux_r"
    refine ⟨fun h1 => ⟨by rw [h1]; rfl, rfl⟩, fun h1 => B_and ?_⟩
    walk_at "mux_r"
    refine ⟨fun h2 => ⟨?_, rfl⟩, fun h2 => ?_⟩
    · have : g = none := by cases g <;> simp_all
      subst this
      rw [h1]; rfl
    walk_at "mux_r"
    exact ⟨by rw [h1]; rfl, rfl⟩
  · walk_at "mux_r"
    have := q st
    unfold movedW movedV at this
    rw [if_pos h1, if_pos h1] at this
    exact this I
  · unfold movedW movedV at q
    have h1n : ¬ (!inT (R.tab (tb i)) (some x) || inT (R.tab (tb j)) g) = true := by rw [h1]; exact nofun
    rw [if_neg h1n, if_neg h1n] at q
    have h2 : inT (R.tab (tb i)) (some x) = true := by
      cases e : inT (R.tab (tb i)) (some x) with
      | true => rfl
      | false => rw [e] at h1; cases h1
    have h3 : inT (R.tab (tb j)) g = false := by
      cases e : inT (R.tab (tb j)) g with
      | false => rfl
      | true => rw [e, Bool.or_true] at h1; cases h1
    have h4 := numAt_get h2
    have hti := I.tR _ (tb_lt i)
    have htj := I.tR _ (tb_lt j)
    walk_at "mux_r"
    refine S_ite ?_
    walk_at "mux_r"
    refine c_isD ⟨fun h5 => ?_, fun h5 => ?_⟩
    · have e : tb i = tb j := by have := of_decide_eq_true h5; omega
      rw [if_pos e, if_pos e] at q
      have hy : inT (R.tab (tb j)) (some (place j R g s)) = false := by
        unfold place
        cases g with
        | none => exact free_out htj.srt s
        | some c => exact h3
      walk_at "mux_r"
      refine W2.to (v := .int (place j R g s)) (s := st) (E_ite ?_) ?_
      · walk_at "mux_r"
        refine ⟨fun h1 => ?_, fun h1 => ?_⟩
        · walk_at "mux_r"
          refine free_real I hj ⟨?_, rfl⟩
          unfold place; rw [Option.isNone_iff_eq_none.mp h1]; rfl
        · walk_at "mux_r"
          cases g with
          | none => cases h1
          | some c => exact ⟨rfl, rfl⟩
      walk_at "mux_r"
      have hT : ∀ (w : WS) (t : Tab), (w.st (tb j) t).tab (tb j) = t := fun w t => upf_same _ _ _
      have h4' : tget (R.tab (tb j)) x = some (numAt (R.tab (tb i)) x) := by rw [← e]; exact h4
      refine bm_popRK I h4' fun s1 I1 k1 => ?_
      walk_at "mux_r"
      refine w_setRK I1 (hti.lt h4) (by rw [hT]; exact Nat.lt_of_le_of_lt (tdel_len ..) hl) fun s2 I2 k2 => ?_
      rw [hT, single_remap htj.srt h4' hy] at I2
      have I2' : Inv true s2 h n (R.st (tb i) (remap (R.tab (tb i)) (single x (place j R g s)))) L := I2.to (by
        rw [e]; simp only [WS.st, upf_upf])
      clear I2
      walk_at "mux_r"
      refine E_d1 I2' rfl rfl fun s3 d3 I3 k3 hG3 => ?_
      walk_at "mux_r"
      refine ren_real I3 hi hG3 fun s4 I4 k4 => ?_
      walk_at "mux_r"
      refine S_for (src_val ?_)
      walk_at "mux_r"
      refine E_objs (fun k => !decide (k = j)) ?_
      walk_at "mux_r"
      refine ⟨mts i, rfl, by have := mts_len (i := i); omega, fun k hk => ?_, ?_⟩
      · walk_at "mux_r"
        exact c_isnotO ⟨rfl, rfl⟩
      have hfl : ((mts i).filter fun k => !decide (k = j)).length ≤ 2 := Nat.le_trans (List.length_filter_le ..) mts_len
      refine W1.of (add_obj (a := [j]) (by show 1 + _ ≤ 1000; omega)) ?_
      refine .inl ⟨_, .inl rfl, by rw [List.length_map, List.length_append]; show 1 + _ ≤ 1000; omega, ?_⟩
      refine move_loop (i := i) (x := x) (y := place j R g s) (j :: ((mts i).filter fun k => !decide (k = j))) I4 (fun a ha => ?_) rfl rfl rfl fun s5 l5 I5 hl5 => ?_
      · rcases List.mem_cons.mp ha with rfl | ha
        · exact hj
        · exact mts_lt a (List.mem_filter.mp ha).1
      rw [others_move hi hj e] at I5
      have I6 : Inv true s5 h n (placed i (single x (place j R g s)) R) L := I5.to (by
        unfold placed; rw [← led_eq hi]; rfl)
      have hv : ∀ z v, z ≠ 47 → lget z [(50, .obj 3 i), (31, .int x), (51, .obj 3 j), (52, oV g), (33, .int s), (35, .bool b), (45, .list ((mts i).map (V.obj 3))), (32, .obj 2 (numAt (R.tab (tb i)) x)), (34, .int (place j R g s))] = some v → lget z l5 = some v := fun z v hz hv => (hl5 z hz).trans hv
      refine X_cons ?_
      refine S_cut (fun s' => Inv true s' h n (if b then shown j (place j R g s) (placed i (single x (place j R g s)) R) else placed i (single x (place j R g s)) R) L) (S_ite (B_var (hv 35 _ (by decide) rfl) ⟨fun hb => ?_, fun hb => ?_⟩)) fun s7 I7 => ?_
      · subst hb
        refine X_cons (S_expr (E_meth (E_var (hv 51 _ (by decide) rfl) (mt10 (L_cons (E_var (hv 34 _ (by decide) rfl) (L_nil ?_)))))))
        refine shown_real I6 hj fun s8 I8 => ?_
        walk_at "mux_r"
        exact ⟨rfl, rfl, I8⟩
      · subst hb
        walk_at "mux_r"
        exact ⟨rfl, rfl, I6⟩
      · refine X_cons (S_ret (E_var (hv 34 _ (by decide) rfl) ?_))
        exact q s7 I7
    · have e : ¬ tb i = tb j := fun e => by have := of_decide_eq_false h5; omega
      rw [if_neg e, if_neg e] at q
      walk_at "mux_r"
      refine take_real I hi fun s1 I1 => ?_
      walk_at "mux_r"
      refine added_real I1 hj (hti.lt h4) (by rw [taken_tab i j x R e]; exact hl) fun s2 I2 => ?_
      walk_at "mux_r"
      exact q s2 I2
theorem moved_law (I : Inv true st h n R L) (hi : i < 3) (hj : j < 3) (hl : (L.tab (tb j)).length < 50) (hs : -1000 ≤ s ∧ s ≤ 900) {k : Nat} {Q : V → St → Prop} (q : ∀ st', Inv true st' h n R (movedW i x j g s b L) → Q (oV (movedV i x j g s b L)) st') :
    W2 (callF P (ev P (k + 80)) 17 [.sd 0, .int i, .int x, .int j, oV g, .int s, .bool b] st) Q := by
  refine C_fn (l := [(60, .sd 0), (53, .int i), (31, .int x), (54, .int j), (52, oV g), (33, .int s), (35, .bool b)]) rfl rfl ?_
  dsimp only [N17]
  walk_at "mux_r"
  refine S_ite (W2.to (v := (!inT (L.tab (tb i)) (some x) || inT (L.tab (tb j)) g)) (s := st) (B_or ?_) ⟨fun h1 => ?_, fun h1 => ?_⟩)
  · walk_at "mux_r"
    refine ⟨fun h1 => ⟨by rw [h1]; rfl, rfl⟩, fun h1 => ?_⟩
    walk_at "mux_r"
    exact ⟨by rw [h1]; rfl, rfl⟩
  · walk_at "mux_r"
    have := q st
    unfold movedW movedV at this
    rw [if_pos h1, if_pos h1] at this
    exact this I
  · unfold movedW movedV at q
    have h1n : ¬ (!inT (L.tab (tb i)) (some x) || inT (L.tab (tb j)) g) = true := by rw [h1]; exact nofun
    rw [if_neg h1n, if_neg h1n] at q
    have h2 : inT (L.tab (tb i)) (some x) = true := by
      cases e : inT (L.tab (tb i)) (some x) with
      | true => rfl
      | false => rw [e] at h1; cases h1
    have h3 : inT (L.tab (tb j)) g = false := by
      cases e : inT (L.tab (tb j)) g with
      | false => rfl
      | true => rw [e, Bool.or_true] at h1; cases h1
    have h4 := numAt_get h2
    have hti := I.tL _ (tb_lt i)
    have htj := I.tL _ (tb_lt j)
    walk_at "mux_r"
    refine S_ite ?_
    walk_at "mux_r"
    refine ⟨fun h5 => ?_, fun h5 => ?_⟩
    · have e : ¬ tb i = tb j := fun e => by rw [e] at h5; simp at h5
      rw [if_neg e, if_neg e] at q
      walk_at "mux_r"
      refine bm_popL I h4 fun s1 I1 => ?_
      walk_at "mux_r"
      refine settle_law I1 hi fun s2 I2 => ?_
      walk_at "mux_r"
      refine added_law I2 hj (hti.lt h4) (by
        have := taken_tab i j x L e
        unfold taken at this
        rw [this]; exact hl) hs fun s3 I3 => ?_
      exact q s3 I3
    · have e : tb i = tb j := by have : (tb i : Int) = tb j := by simpa using h5
                                 omega
      rw [if_pos e, if_pos e] at q
      walk_at "mux_r"
      refine W2.to (v := .int (place j L g s)) (s := st) (E_ite ?_) ?_
      · walk_at "mux_r"
        refine ⟨fun h1 => ?_, fun h1 => ?_⟩
        · walk_at "mux_r"
          refine free_law I hs ⟨?_, rfl⟩
          unfold place; rw [Option.isNone_iff_eq_none.mp h1, e]; rfl
        · walk_at "mux_r"
          cases g with
          | none => cases h1
          | some c => exact ⟨rfl, rfl⟩
      walk_at "mux_r"
      refine E_d1 I rfl rfl fun s3 d3 I3 k3 hG3 => ?_
      walk_at "mux_r"
      refine placed_law I3 hG3 fun s4 I4 => ?_
      walk_at "mux_r"
      refine S_cut (fun s' => Inv true s' h n R (if b then shown j (place j L g s) (placed i (single x (place j L g s)) L) else placed i (single x (place j L g s)) L)) (S_ite (B_var rfl ⟨fun hb => ?_, fun hb => ?_⟩)) fun s7 I7 => ?_
      · subst hb
        walk_at "mux_r"
        refine shown_law I4 hj fun s8 I8 => ?_
        walk_at "mux_r"
        exact ⟨rfl, rfl, I8⟩
      · subst hb
        walk_at "mux_r"
        exact ⟨rfl, rfl, I4⟩
      · walk_at "mux_r"
        exact q s7 I7
end
def noteW (m : Nat) (seen : Bool) (w : WS) : WS := w.sf m (w.fl m || !seen)
def idxW (t : Tab) (m : Nat) : Option Int := ((keys t).filter fun k => decide (numAt t k = m)).head?
section
variable {full : Bool} {st : St} {h n : Nat} {R L : WS} {i m : Nat} {cs : List Int}
theorem sf_self {w : WS} {m : Nat} {b : Bool} (h : w.fl m = b) : w.sf m b = w := by unfold WS.sf; rw [upf_self h]
theorem draw_ok (I : Inv full st h n R L) (hh : h < 9000) (hc : cs.length ≤ 1000) {B k : Nat} (hB : 0 < B) {Q : V → St → Prop} (q : ∀ st' (d : Nat), d < B → Inv full st' (h + 1) n R L → Q (.int d) st') :
    W2 (callF P (ev P (k + 12)) 8 [.list (cs.map .int), .ml 0, .int B] st) Q := by
  refine C_fn (l := [(57, .list (cs.map .int)), (58, .ml 0), (59, .int B)]) rfl rfl ?_
  dsimp only [N8]
  have hl := get_lt I.m0
  have g0 : getI st (.ml 0) (.int 0) = some (.int h) := by
    show ((st.mls[0]?).bind _) = _
    rw [I.m0]; rfl
  have I1 : Inv full { st with mls := st.mls.set 0 [.int ((h + 1 : Nat) : Int)] } (h + 1) n R L := by
    have key : ∀ {k : Nat} {x : List V} {y : List V}, k ≠ 0 → st.mls[k]? = some x → (st.mls.set 0 y)[k]? = some x := fun {k x y} hk e => by rw [← e]; exact List.getElem?_set_ne (Ne.symm hk)
    exact ⟨by omega, I.nb, List.getElem?_set_self hl, key (by decide) I.m1, key (by decide) I.m2, key (by decide) I.m3, I.s0, I.sr, I.dL, I.dR, I.tL, I.tR, I.ss, I.ww, I.wl, I.pl, I.cl, I.z⟩
  have hset : setI st (.ml 0) (.int 0) (.int ((h : Int) + 1)) = some { st with mls := st.mls.set 0 [.int ((h + 1 : Nat) : Int)] } := by
    show ((st.mls[0]?).bind _) = _
    rw [I.m0]; rfl
  revert I1 hset
  generalize ({ st with mls := st.mls.set 0 [.int ((h + 1 : Nat) : Int)] } : St) = s1
  intro I1 hset
  have g1 : getI s1 (.ml 0) (.int 0) = some (.int ((h + 1 : Nat) : Int)) := by
    show ((s1.mls[0]?).bind _) = _
    rw [I1.m0]; rfl
  have fin : ∀ x : Int, W1 (binS s1 .mod (.int x) (.int B)) fun w => Q w s1 := fun x => by
    refine W1.of (v := .int (((x.fmod B).toNat : Nat) : Int)) ?_ (q s1 _ ?_ I1)
    · show (if _ then _ else _) = _
      rw [if_pos (by omega)]
      congr 2
      rw [Int.fmod_eq_emod_of_nonneg _ (by omega)]
      have := Int.emod_nonneg x (show (B : Int) ≠ 0 by omega)
      omega
    · rw [Int.fmod_eq_emod_of_nonneg _ (by omega)]
      have h1 := Int.emod_nonneg x (show (B : Int) ≠ 0 by omega)
      have h2 := Int.emod_lt_of_pos x (show (0 : Int) < B by omega)
      omega
  walk_at "mux_i"
  refine W1.of g0 ?_
  walk_at "mux_i"
  refine W1.of hset ?_
  walk_at "mux_i"
  refine S_ite ?_
  walk_at "mux_i"
  refine W1.of g1 ?_
  walk_at "mux_i"
  refine bi_lenI hc ?_
  refine c_gt ⟨fun h1 => ?_, fun h1 => ?_⟩
  · walk_at "mux_i"
    refine W1.of g1 ?_
    walk_at "mux_i"
    refine W1.of (show (if _ then _ else _) = _ from if_pos (by simp; omega)) ?_
    walk_at "mux_i"
    refine W1.of (v := .int (Int.fdiv (((h + 1 : Nat) : Int) * 7) 3)) rfl ?_
    walk_at "mux_i"
    exact fin _
  · have h2 : h < cs.length := by have := of_decide_eq_false h1; omega
    walk_at "mux_i"
    refine W1.of g1 ?_
    walk_at "mux_i"
    refine W1.of (at_int (j := h) (x := cs[h]) (by omega) (by omega) (List.getElem?_eq_getElem h2)) ?_
    walk_at "mux_i"
    exact fin _
theorem Inv.updF (I : Inv full st h n R L) (hm : m < n) {b c : Bool} : Inv full { st with wins := st.wins.set m (winF m b c) } h n (R.sf m (b || c)) L := by
  have hl : m < st.wins.length := by rw [I.wl]; exact hm
  refine ⟨I.hb, I.nb, I.m0, I.m1, I.m2, I.m3, I.s0, I.sr, I.dL, I.dR, I.tL, I.tR, I.ss, fun j hj => ?_, by rw [← I.wl]; exact List.length_set, I.pl, I.cl, I.z⟩
  by_cases q : j = m
  · subst q
    exact ⟨b, c, List.getElem?_set_self hl, by simp [WS.sf, upf_same]⟩
  · obtain ⟨b', c', h3, h4⟩ := I.ww j hj
    refine ⟨b', c', ?_, by rw [h4]; simp [WS.sf, upf_ne _ _ q]⟩
    show (st.wins.set m _)[j]? = _
    rw [List.getElem?_set_ne (fun e => q e.symm)]; exact h3
theorem note_real (I : Inv true st h n R L) (hm : m < n) {rung seen : Bool} {k : Nat} {Q : V → St → Prop} (q : ∀ st', Inv true st' h n (noteW m seen R) L → Q .none st') : W2 (callF P (ev P (k + 12)) 106 [.obj 2 m, .bool rung, .bool seen] st) Q := by
  refine C_fn (l := [(26, .obj 2 m), (29, .bool rung), (30, .bool seen)]) rfl rfl ?_
  dsimp only [N106]
  obtain ⟨b, c, h1, h2⟩ := I.ww m hm
  have hl := get_lt h1
  walk_at "mux_r"
  refine S_ite ?_
  walk_at "mux_r"
  refine ⟨fun hs => ?_, fun hs => ?_⟩
  · have hs : seen = false := by simpa using hs
    subst hs
    walk_at "mux_r"
    refine W1.of (v := { st with wins := st.wins.set m (winF m b true) }) ?_ ?_
    · unfold setA; dsimp only
      rw [if_pos (show P.attr 2 22 = true from rfl)]
      show ((st.wins[m]?).bind _) = _
      rw [h1, Option.bind_some, if_pos (by show 10 ≤ 900; decide)]
      rfl
    have I1 := I.updF hm (b := b) (c := true)
    have h3 : ({ st with wins := st.wins.set m (winF m b true) } : St).wins[m]? = some (winF m b true) := List.getElem?_set_self hl
    revert I1 h3
    generalize ({ st with wins := st.wins.set m (winF m b true) } : St) = s1
    intro I1 h3
    walk_at "mux_r"
    refine W2.to (v := .bool (b || rung)) (s := s1) (E_or ?_) ?_
    · walk_at "mux_r"
      refine W1.of (v := .bool b) ?_ ⟨_, rfl, fun e => ⟨by rw [e]; rfl, rfl⟩, fun e => ?_⟩
      · unfold getA; dsimp only
        rw [if_pos (show P.attr 2 21 = true from rfl)]
        show ((s1.wins[m]?).bind _) = _
        rw [h3]; rfl
      · walk_at "mux_r"
        exact ⟨by rw [e]; rfl, rfl⟩
    walk_at "mux_r"
    refine W1.of (v := { s1 with wins := s1.wins.set m (winF m (b || rung) true) }) ?_ ?_
    · unfold setA; dsimp only
      rw [if_pos (show P.attr 2 21 = true from rfl)]
      show ((s1.wins[m]?).bind _) = _
      rw [h3, Option.bind_some, if_pos (by show 10 ≤ 900; decide)]
      rfl
    walk_at "mux_r"
    refine q _ ((I1.updF hm).to ?_)
    unfold noteW
    simp only [WS.sf, upf_upf, Bool.or_true, Bool.not_false]
  · have hs : seen = true := by simpa using hs
    subst hs
    walk_at "mux_r"
    refine q _ (I.to ?_)
    unfold noteW
    exact sf_self (by simp)
theorem idx_loop (I : Inv true st h n R L) (hi : i < 3) {k : Nat} {Q : Fl → Loc → St → Prop} : ∀ (ks : List Int) (l : Loc), (∀ x ∈ ks, x ∈ keys (R.tab (tb i))) → (l = [(26, .obj 3 i), (32, .obj 2 m)] ∨ ∃ x, l = [(26, .obj 3 i), (32, .obj 2 m), (31, x)]) →
    (∀ l', (match (ks.filter fun x => decide (numAt (R.tab (tb i)) x = m)).head? with
      | none => Q .next l' st
      | some x => Q (.ret (.int x)) l' st)) →
    W3 (forL P (ev P (k + 12)) (.var 31) [.ite (.cmp .is (.idx (.attr (.var 26) 23) (.var 31)) (.var 32)) [.ret (some (.var 31))] []] (ks.map .int) l st) Q
  | [], l, _, _, q => ⟨.next, l, st, by simp only [List.map_nil, forL], q l⟩
  | x :: ks, l, hk, hl, q => by
    have hxk := hk x (.head _)
    have hxm := numAt_get (inT_keys (I.tR _ (tb_lt i)).srt hxk)
    have key : W3 (exB (ev P (k + 12)) [.ite (.cmp .is (.idx (.attr (.var 26) 23) (.var 31)) (.var 32)) [.ret (some (.var 31))] []] (upd 31 (.int x) l) st) fun f l' s' => s' = st ∧ l' = upd 31 (.int x) l ∧ f = (if numAt (R.tab (tb i)) x = m then .ret (.int x) else .next) := by
      rcases hl with rfl | ⟨y, rfl⟩
      all_goals
        walk_at "mux_r"
        refine S_ite ?_
        walk_at "mux_r"
        refine W1.of (v := decide (numAt (R.tab (tb i)) x = m)) (show some (2 == 2 && numAt (R.tab (tb i)) x == m) = _ by by_cases q : numAt (R.tab (tb i)) x = m <;> simp [q]) ⟨fun e => ?_, fun e => ?_⟩
        · walk_at "mux_r"
          exact ⟨rfl, rfl, by rw [if_pos (of_decide_eq_true e)]⟩
        · walk_at "mux_r"
          exact ⟨rfl, rfl, by rw [if_neg (of_decide_eq_false e)]⟩
    obtain ⟨f, l', s', h1, e1, e2, e3⟩ := key
    rw [e1, e2, e3] at h1
    by_cases e : numAt (R.tab (tb i)) x = m
    · rw [if_pos e] at h1
      have := q (upd 31 (.int x) l)
      rw [List.filter_cons_of_pos (by simpa using e)] at this
      exact ⟨_, _, st, by simp only [List.map_cons, forL, assign, h1], this⟩
    · rw [if_neg e] at h1
      obtain ⟨f, l2, s2, h2, q⟩ := idx_loop I hi (k := k) (Q := Q) ks (upd 31 (.int x) l) (fun y hy => hk y (.tail _ hy)) (by
        rcases hl with rfl | ⟨y, rfl⟩
        · exact .inr ⟨_, rfl⟩
        · exact .inr ⟨_, rfl⟩) (fun l' => by
        have := q l'
        rw [List.filter_cons_of_neg (by simpa using e)] at this; exact this)
      exact ⟨f, l2, s2, by simp only [List.map_cons, forL, assign, h1, h2], q⟩
theorem idx_real (I : Inv true st h n R L) (hi : i < 3) {k : Nat} {Q : V → St → Prop} (q : Q (oV (idxW (R.tab (tb i)) m)) st) : W2 (callF P (ev P (k + 20)) 110 [.obj 3 i, .obj 2 m] st) Q := by
  refine C_fn (l := [(26, .obj 3 i), (32, .obj 2 m)]) rfl rfl ?_
  dsimp only [N110]
  walk_at "mux_r"
  refine S_for (src_val ?_)
  walk_at "mux_r"
  refine indexes_ok I hi ?_
  refine .inl ⟨_, .inl rfl, by rw [List.length_map, keys_len]; have := (I.tR _ (tb_lt i)).len; omega, ?_⟩
  refine idx_loop I hi (keys (R.tab (tb i))) _ (fun _ h => h) (.inl rfl) fun l' => ?_
  unfold idxW at q
  cases e : ((keys (R.tab (tb i))).filter fun k => decide (numAt (R.tab (tb i)) k = m)).head? with
  | none => rw [e] at q; walk_at "mux_r"; exact q
  | some x => rw [e] at q; exact q
end
def ext (s : St) (fc fp fw : List Fields) (m : List (List V)) : St := { s with cells := s.cells ++ fc, panes := s.panes ++ fp, wins := s.wins ++ fw, mls := s.mls ++ m }
section
variable {s : St} {n : Nat} {fc fp fw : Fields} {c p w : List Fields} {m : List (List V)} {a : Nat} {v : V}
theorem last_set {α : Type} {l : List α} {x y : α} {n : Nat} (h : l.length = n) : (l ++ [x]).set n y = l ++ [y] := by
  subst h; simp
theorem last_get {α : Type} {l : List α} {x : α} {n : Nat} (h : l.length = n) : (l ++ [x])[n]? = some x := by
  subst h; simp
theorem x_setW {Q : St → Prop} (h : s.wins.length = n) (ha : P.attr 2 a = true) (hl : Nat.ble fw.length 900 = true) (q : Q (ext s c p [upd a v fw] m)) : W1 (setA P (ext s c p [fw] m) a v (.obj 2 n)) Q := by
  refine W1.of ?_ q
  unfold setA; dsimp only
  rw [if_pos ha]
  show (((s.wins ++ [fw])[n]?).bind _) = _
  rw [last_get h, Option.bind_some, if_pos (Nat.le_of_ble_eq_true hl)]
  show some ({ ext s c p [fw] m with wins := (s.wins ++ [fw]).set n (upd a v fw) } : St) = _
  rw [last_set h]; rfl
theorem x_setP {Q : St → Prop} (h : s.panes.length = n) (ha : P.attr 1 a = true) (hl : Nat.ble fp.length 900 = true) (q : Q (ext s c [upd a v fp] w m)) : W1 (setA P (ext s c [fp] w m) a v (.obj 1 n)) Q := by
  refine W1.of ?_ q
  unfold setA; dsimp only
  rw [if_pos ha]
  show (((s.panes ++ [fp])[n]?).bind _) = _
  rw [last_get h, Option.bind_some, if_pos (Nat.le_of_ble_eq_true hl)]
  show some ({ ext s c [fp] w m with panes := (s.panes ++ [fp]).set n (upd a v fp) } : St) = _
  rw [last_set h]; rfl
theorem x_setC {Q : St → Prop} (h : s.cells.length = n) (ha : P.attr 0 a = true) (hl : Nat.ble fc.length 900 = true) (q : Q (ext s [upd a v fc] p w m)) : W1 (setA P (ext s [fc] p w m) a v (.obj 0 n)) Q := by
  refine W1.of ?_ q
  unfold setA; dsimp only
  rw [if_pos ha]
  show (((s.cells ++ [fc])[n]?).bind _) = _
  rw [last_get h, Option.bind_some, if_pos (Nat.le_of_ble_eq_true hl)]
  show some ({ ext s [fc] p w m with cells := (s.cells ++ [fc]).set n (upd a v fc) } : St) = _
  rw [last_set h]; rfl
theorem x_getW {Q : V → Prop} (h : s.wins.length = n) (ha : P.attr 2 a = true) (hv : lget a fw = some v) (q : Q v) : W1 (getA P (ext s c p [fw] m) a (.obj 2 n)) Q := by
  refine W1.of ?_ q
  unfold getA; dsimp only
  rw [if_pos ha]
  show (((s.wins ++ [fw])[n]?).bind _) = _
  rw [last_get h, Option.bind_some, hv]
theorem x_getP {Q : V → Prop} (h : s.panes.length = n) (ha : P.attr 1 a = true) (hv : lget a fp = some v) (q : Q v) : W1 (getA P (ext s c [fp] w m) a (.obj 1 n)) Q := by
  refine W1.of ?_ q
  unfold getA; dsimp only
  rw [if_pos ha]
  show (((s.panes ++ [fp])[n]?).bind _) = _
  rw [last_get h, Option.bind_some, hv]
theorem x_getC {Q : V → Prop} (h : s.cells.length = n) (ha : P.attr 0 a = true) (hv : lget a fc = some v) (q : Q v) : W1 (getA P (ext s [fc] p w m) a (.obj 0 n)) Q := by
  refine W1.of ?_ q
  unfold getA; dsimp only
  rw [if_pos ha]
  show (((s.cells ++ [fc])[n]?).bind _) = _
  rw [last_get h, Option.bind_some, hv]
theorem x_newW {r : Rec} {vs : List V} {Q : V → St → Prop} (h : s.wins.length = n) (q : W2 (callF P r 102 (.obj 2 n :: vs) (ext s c p [[]] m)) fun v s' => v = .none ∧ Q (.obj 2 n) s') : W2 (newF P r 2 vs (ext s c p [] m)) Q := by
  have e : (ext s c p [] m).objs 2 = s.wins := List.append_nil _
  refine N_new (by decide) rfl ?_
  rw [e, h]
  exact q
theorem x_newP {r : Rec} {vs : List V} {Q : V → St → Prop} (h : s.panes.length = n) (q : W2 (callF P r 101 (.obj 1 n :: vs) (ext s c [[]] w m)) fun v s' => v = .none ∧ Q (.obj 1 n) s') : W2 (newF P r 1 vs (ext s c [] w m)) Q := by
  have e : (ext s c [] w m).objs 1 = s.panes := List.append_nil _
  refine N_new (by decide) rfl ?_
  rw [e, h]
  exact q
theorem x_newC {r : Rec} {vs : List V} {Q : V → St → Prop} (h : s.cells.length = n) (q : W2 (callF P r 100 (.obj 0 n :: vs) (ext s [[]] p w m)) fun v s' => v = .none ∧ Q (.obj 0 n) s') : W2 (newF P r 0 vs (ext s [] p w m)) Q := by
  have e : (ext s [] p w m).objs 0 = s.cells := List.append_nil _
  refine N_new (by decide) rfl ?_
  rw [e, h]
  exact q
theorem x_ml {k : Nat} {l : Loc} {Q : V → St → Prop} (q : Q (.ml (s.mls ++ m).length) (ext s c p w (m ++ [[]]))) : W2 ((ev P (k + 1)).E (.ml []) l (ext s c p w m)) Q := by
  refine E_ml (L_nil ⟨by decide, ?_⟩)
  have : ({ ext s c p w m with mls := (ext s c p w m).mls ++ [[]] } : St) = ext s c p w (m ++ [[]]) := by
    show ({ ext s c p w m with mls := s.mls ++ m ++ [[]] } : St) = _
    rw [List.append_assoc]; rfl
  rw [this]
  exact q
end
local macro_rules | `(tactic| walk_at "mux_y") => `(tactic| (repeat' (first | with_reducible refine x_ml ?_ | with_reducible refine X_cons ?_ | with_reducible refine X_nil ?_ | with_reducible refine S_asg ?_ | with_reducible refine S_expr ?_ | with_reducible refine S_ret ?_ | with_reducible refine S_ret0 ?_ | with_reducible refine E_tup ?_ | with_reducible refine E_list ?_ | with_reducible refine L_cons ?_ | with_reducible refine L_nil ?_ | with_reducible refine E_const ?_ | with_reducible refine E_var rfl ?_ | with_reducible refine E_attr ?_ | with_reducible refine E_idx ?_ | with_reducible refine E_bin ?_ | with_reducible refine E_cmp ?_ | with_reducible refine B_cmp ?_ | with_reducible refine B_var rfl ?_ | with_reducible refine B_not ?_ | with_reducible refine B_attr ?_ | with_reducible refine B_idx ?_ | with_reducible refine B_call ?_ | with_reducible refine E_call ?_ | with_reducible refine E_bi ?_ | with_reducible refine E_bm ?_ | with_reducible refine E_ml ?_ | with_reducible refine E_dict0 ?_ | with_reducible refine E_neg ?_ | with_reducible refine E_meth ?_ | with_reducible refine A_var ?_ | with_reducible refine A_attr ?_ | with_reducible refine A_idx ?_ | with_reducible refine A_tup2 ?_ | with_reducible refine A_tup3 ?_ | with_reducible refine src_val ?_ | with_reducible refine src_range ?_ | with_reducible refine src_enum ?_ | with_reducible refine E_new ?_ | with_reducible refine c_isnone ?_ | with_reducible refine c_isnotnone ?_ | with_reducible refine c_eq ?_ | with_reducible refine c_ne ?_ | with_reducible refine c_ne1 ?_ | with_reducible refine c_eqI ?_ | with_reducible refine c_neI ?_ | with_reducible refine c_gt ?_ | with_reducible refine c_lt ?_ | with_reducible refine c_inR (by assumption) ?_ | with_reducible refine c_ninR (by assumption) ?_ | with_reducible refine c_inL (by assumption) ?_ | with_reducible refine c_ninL (by assumption) ?_ | with_reducible refine c_inR1 (by assumption) ?_ | with_reducible refine c_ninR1 (by assumption) ?_ | with_reducible refine c_inL1 (by assumption) ?_ | with_reducible refine c_ninL1 (by assumption) ?_ | with_reducible refine b_add ?_ | with_reducible refine b_sub ?_ | with_reducible refine bi_sortR (by assumption) ?_ | with_reducible refine bi_sortL (by assumption) ?_ | with_reducible refine bi_lenL (by assumption) ?_ | with_reducible refine ex_int ?_ | with_reducible refine ex_bool ?_ | with_reducible refine mt1 ?_ | with_reducible refine mt2 ?_ | with_reducible refine mt3 ?_ | with_reducible refine mt4 ?_ | with_reducible refine mt5 ?_ | with_reducible refine mt6 ?_ | with_reducible refine mt7 ?_ | with_reducible refine mt8 ?_ | with_reducible refine mt9 ?_ | with_reducible refine mt10 ?_ | with_reducible refine mt11 ?_ | with_reducible refine mt12 ?_ | with_reducible refine mt13 ?_ | with_reducible refine mt14 ?_ | with_reducible refine mt15 ?_ | with_reducible refine mt16 ?_ | with_reducible refine le1000 rfl ?_ | refine x_setW (by assumption) rfl rfl ?_ | refine x_setP (by assumption) rfl rfl ?_ | refine x_setC (by assumption) rfl rfl ?_ | refine x_getW (by assumption) rfl rfl ?_ | refine x_getP (by assumption) rfl rfl ?_ | refine x_getC (by assumption) rfl rfl ?_ | fail)))
theorem pane_new {s : St} {n k : Nat} {Q : V → St → Prop} (h : s.panes.length = n) (q : Q .none (ext s [] [[(7, .int n), (8, .none), (9, .int 0), (10, .int 0), (11, .int 0), (12, .bytes []), (13, .bool false), (14, .none)]] [] [])) : W2 (callF P (ev P (k + 12)) 101 [.obj 1 n, .int n] (ext s [] [[]] [] [])) Q := by
  refine C_fn (l := [(26, .obj 1 n), (7, .int n), (8, .none)]) rfl rfl ?_
  dsimp only [N101]
  walk_at "mux_y"
  exact q
theorem cell_new {s : St} {n k : Nat} {p w : List Fields} {m : List (List V)} {a0 a1 a2 a3 a4 a5 a6 : V} {Q : V → St → Prop} (h : s.cells.length = n) (q : Q .none (ext s [[(0, a0), (1, a1), (2, a2), (3, a3), (4, a4), (5, a5), (6, a6)]] p w m)) : W2 (callF P (ev P (k + 12)) 100 [.obj 0 n, a0, a1, a2, a3, a4, a5, a6] (ext s [[]] p w m)) Q := by
  refine C_fn (l := [(26, .obj 0 n), (0, a0), (1, a1), (2, a2), (3, a3), (4, a4), (5, a5), (6, a6)]) rfl rfl ?_
  dsimp only [N100]
  walk_at "mux_y"
  exact q
theorem forL_one {r : Rec} {t : Tg} {b : List PS} {x : V} {l : Loc} {s : St} {Q : Fl → Loc → St → Prop} (h : W2 (assign P r t x l s) fun l s => W3 (exB r b l s) Q) : W3 (forL P r t b [x] l s) Q := by
  obtain ⟨l1, s1, h1, f, l2, s2, h2, q⟩ := h
  cases f with
  | next => exact ⟨_, _, _, by simp only [forL, h1, h2], q⟩
  | ret v => exact ⟨_, _, _, by simp only [forL, h1, h2], q⟩
def cellF (n z : Nat) : Fields := [(0, .str 6), (1, .int 10), (2, .int 4), (3, .int 0), (4, .int 0), (5, .ml z), (6, .int n)]
def paneF (n : Nat) (a b : Int) : Fields := [(7, .int n), (8, .none), (9, .int a), (10, .int b), (11, .int 0), (12, .bytes []), (13, .bool false), (14, .none)]
theorem sized {s : St} {n k z : Nat} {w : List Fields} {m : List (List V)} {Q : V → St → Prop} (h : s.panes.length = n) (q : Q (.bool true) (ext s [cellF n z] [paneF n 4 10] w m)) : W2 (callF P (ev P (k + 12)) 104 [.obj 1 n, .int 4, .int 10] (ext s [cellF n z] [paneF n 0 0] w m)) Q := by
  refine C_fn (l := [(26, .obj 1 n), (9, .int 4), (10, .int 10)]) rfl rfl ?_
  dsimp only [N104]
  walk_at "mux_y"
  refine S_ite ?_
  walk_at "mux_y"
  refine W1.of (v := false) rfl ⟨nofun, fun _ => ?_⟩
  walk_at "mux_y"
  refine S_ite ?_
  walk_at "mux_y"
  refine W1.of (v := false) rfl ⟨nofun, fun _ => ?_⟩
  walk_at "mux_y"
  exact q
theorem leaves {s : St} {n k z : Nat} {p w : List Fields} {m : List (List V)} {Q : V → St → Prop} (h : s.cells.length = n) (q : Q (.list [.obj 0 n]) (ext s [cellF n z] p w m)) : W2 (callF P (ev P (k + 12)) 1 [.obj 0 n] (ext s [cellF n z] p w m)) Q := by
  refine C_fn (l := [(27, .obj 0 n)]) rfl rfl ?_
  dsimp only [N1]
  walk_at "mux_y"
  refine S_ite ?_
  walk_at "mux_y"
  refine W1.of (v := true) rfl ⟨fun _ => ?_, nofun⟩
  walk_at "mux_y"
  exact q
theorem numbered {s : St} {n k : Nat} {c w : List Fields} {m : List (List V)} {Q : V → St → Prop} (h : s.panes.length = n) (q : Q (.obj 1 n) (ext s c [paneF n 0 0] w m)) : W2 (callF P (ev P (k + 12)) 2 [.list [.obj 1 n], .int n] (ext s c [paneF n 0 0] w m)) Q := by
  refine C_fn (l := [(16, .list [.obj 1 n]), (7, .int n)]) rfl rfl ?_
  dsimp only [N2]
  walk_at "mux_y"
  refine S_for (src_val ?_)
  walk_at "mux_y"
  refine .inl ⟨_, .inl rfl, Nat.le_of_ble_eq_true rfl, forL_one ?_⟩
  walk_at "mux_y"
  refine S_ite ?_
  walk_at "mux_y"
  refine ⟨fun _ => ?_, fun e => by simp at e⟩
  walk_at "mux_y"
  exact q
theorem window_new {s : St} {n k : Nat} {Q : V → St → Prop} (hc : s.cells.length = n) (hp : s.panes.length = n) (hw : s.wins.length = n) (q : ∀ z, Q .none (ext s [cellF n z] [paneF n 4 10] [winF n false false] [[]])) : W2 (callF P (ev P (k + 40)) 102 [.obj 2 n, .int n, .bytes [119], .obj 1 n, .int 10, .int 4] (ext s [] [paneF n 0 0] [[]] [])) Q := by
  refine C_fn (l := [(26, .obj 2 n), (7, .int n), (15, .bytes [119]), (6, .obj 1 n), (1, .int 10), (2, .int 4)]) rfl rfl ?_
  dsimp only [N102]
  walk_at "mux_y"
  refine C_fn (l := [(6, .int n), (1, .int 10), (2, .int 4)]) rfl rfl ?_
  dsimp only [N0]
  walk_at "mux_y"
  refine x_newC hc (cell_new hc ⟨rfl, ?_⟩)
  walk_at "mux_y"
  refine C_fn (l := [(26, .obj 2 n)]) rfl rfl ?_
  dsimp only [N105]
  walk_at "mux_y"
  refine S_for (src_val ?_)
  walk_at "mux_y"
  refine leaves hc ?_
  refine .inl ⟨_, .inl rfl, Nat.le_of_ble_eq_true rfl, forL_one ?_⟩
  walk_at "mux_y"
  refine numbered hp ?_
  walk_at "mux_y"
  refine S_ite (B_and ?_)
  walk_at "mux_y"
  refine ⟨fun _ => ⟨nofun, fun _ => ?_⟩, nofun⟩
  walk_at "mux_y"
  refine sized hp ?_
  walk_at "mux_y"
  exact q _
theorem bi_lenM {full : Bool} {st : St} {h n : Nat} {R L : WS} (I : Inv full st h n R L) {Q : V → St → Prop} (q : Q (.int n) st) : W2 (biS st .len (.ml 1)) Q := by
  refine W2.of ?_ q
  show ((st.mls[1]?).bind _) = _
  rw [I.m1, Option.bind_some, if_pos (by have := I.nb; simp; omega)]; simp
def freshW (n : Nat) (w : WS) : WS := w.sf n false
theorem TabOk.mono {n n' : Nat} {t : Tab} (h : TabOk n t) (hn : n ≤ n') : TabOk n' t := ⟨h.srt, h.len, fun p hp => Nat.lt_of_lt_of_le (h.num p hp) hn⟩
theorem fresh_law {full : Bool} {st : St} {h n : Nat} {R L : WS} (I : Inv full st h n R L) (hn : n < 50) {k : Nat} {Q : V → St → Prop} (q : ∀ st', Inv full st' h (n + 1) (freshW n R) (freshW n L) → Q (.int n) st') : W2 (callF P (ev P (k + 60)) 9 [.sd 0] st) Q := by
  refine C_fn (l := [(60, .sd 0)]) rfl rfl ?_
  dsimp only [N9]
  walk_at "mux_r"
  refine bi_lenM I ?_
  walk_at "mux_r"
  have e0 : st = ext st [] [] [] [] := by unfold ext; simp
  rw [e0]
  refine x_newP I.pl (pane_new I.pl ⟨rfl, ?_⟩)
  walk_at "mux_r"
  refine x_newW I.wl (window_new I.cl I.pl I.wl fun z => ⟨rfl, ?_⟩)
  walk_at "mux_r"
  have hm1 : (ext st [cellF n z] [paneF n 4 10] [winF n false false] [[]]).mls[1]? = some ((List.range n).map fun k => .obj 2 k) := (get_app (get_lt I.m1)).trans I.m1
  refine W2.of (v := .none) (s := { ext st [cellF n z] [paneF n 4 10] [winF n false false] [[]] with mls := (ext st [cellF n z] [paneF n 4 10] [winF n false false] [[]]).mls.set 1 (((List.range n).map fun k => V.obj 2 k) ++ [V.obj 2 n]) }) ?_ ?_
  · show (((ext st [cellF n z] [paneF n 4 10] [winF n false false] [[]]).mls[1]?).bind _) = _
    rw [hm1, Option.bind_some, if_pos (by simp; omega)]
  have hm2 : ((st.mls ++ [[]]).set 1 (((List.range n).map fun k => V.obj 2 k) ++ [V.obj 2 n]))[2]? = some ((List.range n).map fun k => V.bool (L.fl k)) := by
    rw [List.getElem?_set_ne (by decide)]
    exact (get_app (get_lt I.m2)).trans I.m2
  refine X_cons (S_expr (E_bm (E_idx (E_var rfl (E_const (W1.of (v := .ml 2) ?_ (L_cons (E_const (L_nil ?_)))))))))
  · show ((st.sds[0]?).bind _) = _
    rw [I.s0]; rfl
  refine W2.of (v := .none) (s := { ext st [cellF n z] [paneF n 4 10] [winF n false false] [[]] with mls := ((st.mls ++ [[]]).set 1 (((List.range n).map fun k => V.obj 2 k) ++ [V.obj 2 n])).set 2 (((List.range n).map fun k => V.bool (L.fl k)) ++ [V.bool false]) }) ?_ ?_
  · show ((((st.mls ++ [[]]).set 1 (((List.range n).map fun k => V.obj 2 k) ++ [V.obj 2 n]))[2]?).bind _) = _
    rw [hm2, Option.bind_some, if_pos (by simp; omega)]; rfl
  refine X_cons (S_ret (E_var rfl (q _ ?_)))
  have hl1 := get_lt I.m1
  have hl2 := get_lt I.m2
  have key : ∀ {k : Nat} {x : List V} {y1 y2 : List V}, k ≠ 1 → k ≠ 2 → st.mls[k]? = some x → (((st.mls ++ [[]]).set 1 y1).set 2 y2)[k]? = some x := fun {k x y1 y2} h1 h2 e => by
    rw [List.getElem?_set_ne (Ne.symm h2), List.getElem?_set_ne (Ne.symm h1)]
    exact (get_app (get_lt e)).trans e
  refine ⟨I.hb, by omega, key (by decide) (by decide) I.m0, ?_, ?_, key (by decide) (by decide) I.m3, I.s0, I.sr, I.dL, I.dR, fun k hk => (I.tL k hk).mono (by omega), fun k hk => (I.tR k hk).mono (by omega), I.ss, fun j hj => ?_, ?_, ?_, ?_, I.z⟩
  · show (((st.mls ++ [[]]).set 1 _).set 2 _)[1]? = _
    rw [List.getElem?_set_ne (by decide), List.getElem?_set_self (by simp; omega), List.range_succ, List.map_append]; rfl
  · show (((st.mls ++ [[]]).set 1 _).set 2 _)[2]? = _
    rw [List.getElem?_set_self (by simp; omega), List.range_succ, List.map_append]
    congr 2
    · refine List.map_congr_left fun k hk => ?_
      have := List.mem_range.mp hk
      show _ = V.bool (upf L.fl n false k)
      rw [upf_ne _ _ (by omega)]
    · show _ = [V.bool (upf L.fl n false n)]
      rw [upf_same]
  · show ∃ b c, (st.wins ++ [winF n false false])[j]? = some (winF j b c) ∧ (b || c) = upf R.fl n false j
    by_cases e : j = n
    · subst e
      exact ⟨false, false, last_get I.wl, by rw [upf_same]; rfl⟩
    · obtain ⟨b, c, h1, h2⟩ := I.ww j (by omega)
      exact ⟨b, c, (get_app (get_lt h1)).trans h1, by rw [upf_ne _ _ e]; exact h2⟩
  · show (st.wins ++ [_]).length = _
    rw [List.length_append, I.wl]; rfl
  · show (st.panes ++ [_]).length = _
    rw [List.length_append, I.pl]; rfl
  · show (st.cells ++ [_]).length = _
    rw [List.length_append, I.cl]; rfl
def Fine (i : Nat) (w : WS) : Prop :=
  (inT (w.tab (tb i)) (w.cur i) = true ∧ (w.last i = none ∨ (inT (w.tab (tb i)) (w.last i) = true ∧ w.last i ≠ w.cur i))) ∨ (w.tab (tb i) = [] ∧ w.cur i = none ∧ w.last i = none)
theorem fine_settle {i : Nat} {w : WS} (hs : Srt (w.tab (tb i))) : Fine i (settle i w) := by
  unfold settle
  split
  · rename_i h1
    refine .inl ⟨h1, ?_⟩
    have e : ((w.sl i (last1 (w.tab (tb i)) (w.last i))).sl i (if last1 (w.tab (tb i)) (w.last i) = w.cur i then none else last1 (w.tab (tb i)) (w.last i))).last i = (if last1 (w.tab (tb i)) (w.last i) = w.cur i then none else last1 (w.tab (tb i)) (w.last i)) := upf_same _ _ _
    rw [e]
    split
    · exact .inl rfl
    · rename_i h2
      unfold last1 at h2 ⊢
      split
      · rename_i h3
        rw [if_pos h3] at h2
        exact .inr ⟨h3, h2⟩
      · exact .inl rfl
  · rename_i h1
    split
    · rename_i h2
      exact .inr ⟨h2, upf_same _ _ _, upf_same _ _ _⟩
    · rename_i h2
      refine .inl ⟨?_, .inl (upf_same _ _ _)⟩
      show inT (w.tab (tb i)) (upf w.cur i (some _) i) = true
      rw [upf_same]
      show (tget _ _).isSome = true
      rw [choice_in hs h2]; rfl
theorem fine_eq {i : Nat} {w : WS} (h : Fine i w) : settle i w = w := by
  unfold settle
  rcases h with ⟨h1, h2⟩ | ⟨h1, h2, h3⟩
  · rw [if_pos h1]
    have e : last1 (w.tab (tb i)) (w.last i) = w.last i := by
      unfold last1
      rcases h2 with h2 | ⟨h2, _⟩
      · rw [h2]; rfl
      · rw [if_pos h2]
    rw [e, sl_self rfl]
    rcases h2 with h2 | ⟨h2, h3⟩
    · rw [h2]
      refine sl_self ?_
      rw [h2]; split <;> rfl
    · rw [if_neg h3, sl_self rfl]
  · rw [if_neg (by rw [h2]; exact nofun), if_pos h1]
    rw [sc_self h2, sl_self h3]
theorem fine_cur {i : Nat} {w : WS} (h : Fine i w) {c : Int} (hc : w.cur i = some c) : inT (w.tab (tb i)) (some c) = true := by
  rcases h with ⟨h1, _⟩ | ⟨_, h2, _⟩
  · rw [hc] at h1; exact h1
  · rw [hc] at h2; cases h2
theorem fine_same {i : Nat} {w w' : WS} (h : Fine i w) (h1 : w'.tab (tb i) = w.tab (tb i)) (h2 : w'.cur i = w.cur i) (h3 : w'.last i = w.last i) : Fine i w' := by
  unfold Fine at h ⊢
  rw [h1, h2, h3]; exact h
theorem settle_cur {i j : Nat} {w : WS} (h : i ≠ j) : (settle j w).cur i = w.cur i := by
  unfold settle
  split
  · rfl
  · split
    · exact upf_ne _ _ h
    · exact upf_ne _ _ h
theorem settle_last {i j : Nat} {w : WS} (h : i ≠ j) : (settle j w).last i = w.last i := by
  unfold settle
  split
  · show upf (upf w.last j _) j _ i = _
    rw [upf_ne _ _ h, upf_ne _ _ h]
  · split
    · exact upf_ne _ _ h
    · exact upf_ne _ _ h
theorem fine_other {i j : Nat} {w : WS} (hij : i ≠ j) (h : Fine i w) : Fine i (settle j w) := fine_same h (by rw [settle_tab]) (settle_cur hij) (settle_last hij)
def stood (w : WS) : WS := settle 2 (settle 1 (settle 0 w))
def Good (w : WS) : Prop := ∀ i < 3, Fine i w
theorem stood_tab (w : WS) : (stood w).tab = w.tab := by unfold stood; rw [settle_tab, settle_tab, settle_tab]
theorem stood_good {w : WS} (h : ∀ k < 2, Srt (w.tab k)) : Good (stood w) := fun i hi => by
  unfold stood
  have hs : ∀ i, Srt (w.tab (tb i)) := fun i => h _ (tb_lt i)
  match i, hi with
  | 0, _ => exact fine_other (by decide) (fine_other (by decide) (fine_settle (hs 0)))
  | 1, _ => exact fine_other (by decide) (fine_settle (by rw [settle_tab]; exact hs 1))
  | 2, _ => exact fine_settle (by rw [settle_tab, settle_tab]; exact hs 2)

theorem compM_gen {r : Rec} {elt : PE} {t : Tg} {c : Option PE} {l : Loc} {s : St} {g : V → Option V} {k : Nat} {xs : List V} (hx : s.mls[k]? = some xs) (h : ∀ v ∈ xs, compBody P r elt t c l v s = some (g v, s)) : ∀ (m i : Nat), i ≤ xs.length → xs.length - i < m → compM P r elt t c l k m i s = some ((xs.drop i).filterMap g, s)
  | 0, i, _, hm => by omega
  | m + 1, i, hi, hm => by
    unfold compM
    rw [hx]
    dsimp only
    by_cases q : i < xs.length
    · rw [List.getElem?_eq_getElem q]
      dsimp only
      rw [h _ (List.getElem_mem q)]
      dsimp only
      rw [compM_gen hx h m (i + 1) (by omega) (by omega), List.drop_eq_getElem_cons q]
      rw [List.filterMap_cons]
      cases e : g xs[i] <;> rfl
    · rw [List.getElem?_eq_none (by omega), List.drop_of_length_le (by omega)]; rfl
theorem eqs1_ints : ∀ ks : List Int, eqs1 (ks.map V.int) (ks.map V.int) = some true
  | [] => rfl
  | a :: r => by
    rw [List.map_cons]
    unfold eqs1
    rw [eqs1_ints r]
    show (match some (a == a), some true with
      | some a, some b => some (a && b)
      | _, _ => none) = _
    simp
theorem c_neL {s : St} {ks : List Int} {Q : Bool → Prop} (q : Q false) : W1 (cmpS s .ne (.list (ks.map V.int)) (.list (ks.map V.int))) Q := by
  refine W1.of ?_ q
  show (eqS s _ _).map _ = _
  have : eqS s (.list (ks.map V.int)) (.list (ks.map V.int)) = some true := by
    show (match some (ks.map V.int), some (ks.map V.int) with
      | some xs, some ys => if xs.all V.sc && ys.all V.sc then eqs1 xs ys else .none
      | _, _ => V.eq1 (.list (ks.map V.int)) (.list (ks.map V.int))) = _
    dsimp only
    rw [all_int]
    exact eqs1_ints ks
  rw [this]; rfl
theorem eq1_oV (a : Option Int) : V.eq1 (oV a) (oV a) = some true := by
  cases a with
  | none => rfl
  | some a => show some (a == a) = _; simp
theorem sc_oV (a : Option Int) : V.sc (oV a) = true := by cases a <;> rfl
theorem ne_tup {s : St} {a b : Option Int} : cmpS s .ne (.tup [oV a, oV b]) (.tup [oV a, oV b]) = some false := by
  show (eqS s _ _).map _ = _
  have : eqS s (.tup [oV a, oV b]) (.tup [oV a, oV b]) = some true := by
    show (if _ then eqs1 [oV a, oV b] [oV a, oV b] else none) = _
    rw [if_pos (by simp [sc_oV])]
    simp [eqs1, eq1_oV]
  rw [this]; rfl
theorem eqs1_bools : ∀ ks : List Bool, eqs1 (ks.map V.bool) (ks.map V.bool) = some true
  | [] => rfl
  | a :: r => by
    rw [List.map_cons]
    unfold eqs1
    rw [eqs1_bools r]
    show (match some (a == a), some true with
      | some a, some b => some (a && b)
      | _, _ => none) = _
    simp
section
variable {st : St} {h n : Nat} {W : WS} {i : Nat}
theorem S_no {k : Nat} {c : PE} {a : List PS} {l : Loc} {s : St} {Q : Fl → Loc → St → Prop} (h : W2 ((ev P k).B c l s) fun t s' => t = false ∧ s' = s) (q : Q .next l s) : W3 ((ev P (k + 1)).S (.ite c a []) l s) Q :=
  S_ite (h.imp fun t s' ⟨e1, e2⟩ => by subst e1; subst e2; exact ⟨nofun, fun _ => X_nil q⟩)
def stW (j : Nat) (w : WS) : WS := match j with
  | 0 => w
  | 1 => settle 0 w
  | 2 => settle 1 (settle 0 w)
  | _ => stood w
def standB : List PS := match N22.body with
  | .for _ _ b :: _ => b
  | _ => []
theorem stand_body (I : Inv true st h n W W) (hi : i < 3) {k : Nat} {l : Loc} {Q : Fl → Loc → St → Prop}
    (hl : l = [(60, .sd 0), (53, .int i), (47, .obj 3 i)] ∨ ∃ a b c d, l = [(60, .sd 0), (53, .int i), (47, .obj 3 i), (61, a), (44, b), (62, c), (76, d)])
    (q : ∀ st' a b c d, Inv true st' h n (settle i W) (settle i W) → Q .next [(60, .sd 0), (53, .int i), (47, .obj 3 i), (61, a), (44, b), (62, c), (76, d)] st') :
    W3 (exB (ev P (k + 60)) standB l st) Q := by
  dsimp only [standB, N22]
  have ht := I.tR _ (tb_lt i)
  have hlen := ht.len
  rcases hl with rfl | ⟨xa, xb, xc, xd, rfl⟩
  all_goals
    walk_at "mux_r"
    refine settle_law I hi fun s1 I1 => ?_
    walk_at "mux_r"
    have hfine : Fine i (settle i W) := fine_settle ht.srt
    have htab : ∀ k, (settle i W).tab (tb k) = W.tab (tb k) := fun k => by rw [settle_tab]
    have hcur : ∀ c, (settle i W).cur i = some c → ∃ m, tget (W.tab (tb i)) c = some m := fun c hc => by
      have := fine_cur hfine hc
      rw [htab] at this
      exact inT_some this
    refine W2.via (match (settle i W).cur i with | none => V.none | some c => .obj 2 (numAt (W.tab (tb i)) c)) (fun s' => Inv true s' h n (settle i W) (settle i W)) (window_real I1 hi (fun s2 I2 e => ?_) (fun s2 c m e hm I2 => ?_) hcur) fun s2 I2 => ?_
    · rw [e]; exact ⟨rfl, I2⟩
    · rw [e]
      exact ⟨by show V.obj 2 m = V.obj 2 (numAt _ c); unfold numAt; rw [hm]; rfl, I2⟩
    walk_at "mux_r"
    refine S_no (B_cmp (E_ite ?_)) ?_
    · cases e : (settle i W).cur i with
      | none =>
        walk_at "mux_r"
        refine W1.of (v := true) rfl ⟨fun _ => ?_, nofun⟩
        walk_at "mux_r"
        refine W2.of ((I2.dL _ (tb_lt i)).rget1 (I2.tL _ (tb_lt i)).srt _) ?_
        rw [e]
        exact W1.of (v := false) rfl ⟨rfl, rfl⟩
      | some c =>
        obtain ⟨m, hm⟩ := hcur c e
        have hm1 : tget ((settle i W).tab (tb i)) c = some m := by rw [htab]; exact hm
        have hmn := ht.lt hm
        have hnm : numAt (W.tab (tb i)) c = m := by unfold numAt; rw [hm]; rfl
        dsimp only
        rw [hnm]
        walk_at "mux_r"
        refine W1.of (v := false) rfl ⟨nofun, fun _ => ?_⟩
        walk_at "mux_r"
        refine W2.of ((I2.dL _ (tb_lt i)).rget1 (I2.tL _ (tb_lt i)).srt _) ?_
        rw [e]
        show W1 (cmpS s2 .ne (.int m) ((Option.map encI (tget ((settle i W).tab (tb i)) c)).getD .none)) _
        rw [hm1]
        exact c_neI ⟨by simp, rfl⟩
    walk_at "mux_r"
    refine S_no (B_or ?_) ?_
    · walk_at "mux_r"
      refine W1.of ne_tup ⟨nofun, fun _ => ?_⟩
      walk_at "mux_r"
      refine indexes_ok I2 hi ?_
      refine W2.of (v := .list ((keys ((settle i W).tab (tb i))).map .int)) (s := s2) ?_ ?_
      · show (if _ then _ else _) = _
        rw [if_pos (by rw [List.length_map, keys_len, htab]; omega)]
      walk_at "mux_r"
      exact c_neL ⟨rfl, rfl⟩
    walk_at "mux_r"
    refine S_no (B_cmp (E_mapK (fun c => .int (numAt (W.tab (tb i)) c)) ?_)) ?_
    · walk_at "mux_r"
      refine ⟨_, rfl, by rw [keys_len, htab]; omega, fun c hc => ?_, ?_⟩
      · rw [htab] at hc
        have hm := numAt_get (inT_keys ht.srt hc)
        have hm1 : tget ((settle i W).tab (tb i)) c = some (numAt (W.tab (tb i)) c) := by rw [htab]; exact hm
        have hmn := ht.lt hm
        walk_at "mux_r"
        exact ⟨rfl, rfl⟩
      refine E_mapK (fun c => .int (numAt (W.tab (tb i)) c)) ?_
      walk_at "mux_r"
      refine ⟨_, rfl, by rw [keys_len, htab]; omega, fun c hc => ?_, ?_⟩
      · rw [htab] at hc
        have hm := numAt_get (inT_keys ht.srt hc)
        have hm1 : tget ((settle i W).tab (tb i)) c = some (numAt (W.tab (tb i)) c) := by rw [htab]; exact hm
        walk_at "mux_r"
        exact ⟨rfl, rfl⟩
      have e : ((keys ((settle i W).tab (tb i))).map fun c => V.int (numAt (W.tab (tb i)) c)) = ((keys ((settle i W).tab (tb i))).map fun c => (numAt (W.tab (tb i)) c : Int)).map V.int := by rw [List.map_map]; rfl
      rw [e]
      exact c_neL ⟨rfl, rfl⟩
    walk_at "mux_r"
    exact q _ _ _ _ _ I2
theorem stand_ok (I : Inv true st h n W W) {k : Nat} {Q : V → St → Prop} (q : ∀ st', Inv true st' h n (stood W) (stood W) → Q (.bool true) st') : W2 (callF P (ev P (k + 80)) 22 [.sd 0] st) Q := by
  refine C_fn (l := [(60, .sd 0)]) rfl rfl ?_
  dsimp only [N22]
  walk_at "mux_r"
  refine S_for (src_enum ?_)
  walk_at "mux_r"
  refine ⟨_, rfl, by decide, ?_⟩
  refine forL_ok (fun j l s' => Inv true s' h n (stW j W) (stW j W) ∧ ((j = 0 ∧ l = [(60, .sd 0)]) ∨ ∃ z y a b c d, l = [(60, .sd 0), (53, z), (47, y), (61, a), (44, b), (62, c), (76, d)])) _ 0 ⟨I, .inl ⟨rfl, rfl⟩⟩ (fun j v l s' hj hI => ?_) (fun l s' hI => ?_)
  · obtain ⟨I1, hl⟩ := hI
    rw [Nat.zero_add] at I1 hl ⊢
    have hj3 : j < 3 := get_lt hj
    have hv : v = .tup [.int j, .obj 3 j] := by
      match j, hj3 with
      | 0, _ => exact (Option.some.inj hj).symm
      | 1, _ => exact (Option.some.inj hj).symm
      | 2, _ => exact (Option.some.inj hj).symm
    subst hv
    have fin : ∀ st' a b c d, Inv true st' h n (settle j (stW j W)) (settle j (stW j W)) → Inv true st' h n (stW (j + 1) W) (stW (j + 1) W) ∧ ((j + 1 = 0 ∧ [(60, V.sd 0), (53, .int j), (47, .obj 3 j), (61, a), (44, b), (62, c), (76, d)] = [(60, V.sd 0)]) ∨ ∃ z y a' b' c' d', [(60, V.sd 0), (53, .int j), (47, .obj 3 j), (61, a), (44, b), (62, c), (76, d)] = [(60, V.sd 0), (53, z), (47, y), (61, a'), (44, b'), (62, c'), (76, d')]) := fun st' a b c d I2 => by
      have e : stW (j + 1) W = settle j (stW j W) := by
        match j, hj3 with
        | 0, _ => rfl
        | 1, _ => rfl
        | 2, _ => rfl
      rw [e]
      exact ⟨I2, .inr ⟨_, _, _, _, _, _, rfl⟩⟩
    rcases hl with ⟨_, rfl⟩ | ⟨z, y, a, b, c, d, rfl⟩
    · refine A_tup2 (A_var (A_var ?_))
      refine stand_body (k := k + 19) I1 hj3 (.inl rfl) fun st' a b c d I2 => ?_
      exact fin st' a b c d I2
    · refine A_tup2 (A_var (A_var ?_))
      refine stand_body (k := k + 19) I1 hj3 (.inr ⟨_, _, _, _, rfl⟩) fun st' a b c d I2 => ?_
      exact fin st' a b c d I2
  · obtain ⟨I1, hl⟩ := hI
    have I2 : Inv true s' h n (stood W) (stood W) := I1
    have hn := I2.nb
    have hg : lget 60 l = some (.sd 0) := by
      rcases hl with ⟨_, rfl⟩ | ⟨z, y, a, b, c, d, rfl⟩
      · rfl
      · rfl
    have hg2 : lget 60 l = some (.sd 0) := hg
    refine X_cons (S_ret (E_cmp (E_comp (src_val (E_idx (E_var hg (E_const (w_wd_wins I2 (.inr ⟨_, _, rfl, I2.m1, by simp; omega, ?_⟩)))))))))
    refine ⟨_, _, compM_gen (g := fun v => match v with | .obj _ m => some (.bool ((stood W).fl m)) | _ => none) I2.m1 (fun v hv => ?_) _ _ (Nat.zero_le _) (by omega), ?_⟩
    · obtain ⟨m, hm, rfl⟩ := List.mem_map.mp hv
      have hmn := List.mem_range.mp hm
      obtain ⟨b, c, hb1, hb2, hb3⟩ := w_bell I2 hmn
      have key : W2 ((ev P (k + 77)).E (.bop false [.attr (.var 32) 21, .attr (.var 32) 22]) (upd 32 (.obj 2 m) (lrm [32] l)) s') fun v s2 => v = .bool ((stood W).fl m) ∧ s2 = s' := by
        refine E_or (E_attr (E_var (by rw [lget_upd, if_pos rfl]) (W1.of hb1 ⟨b, rfl, fun e => ⟨?_, rfl⟩, fun e => ?_⟩)))
        · rw [← hb3, e]; rfl
        · refine E_attr (E_var (by rw [lget_upd, if_pos rfl]) (W1.of hb2 ⟨?_, rfl⟩))
          rw [← hb3, e]; rfl
      obtain ⟨v, s2, h1, rfl, rfl⟩ := key
      simp only [compBody, assign]
      rw [show lrm (Tg.vars (.var 32)) l = lrm [32] l from by rw [Tg.vars]]
      rw [h1]
    have e : (((List.range n).map fun k => V.obj 2 k).drop 0).filterMap (fun v => match v with | .obj _ m => some (V.bool ((stood W).fl m)) | _ => none) = ((List.range n).map fun m => (stood W).fl m).map V.bool := by
      rw [List.drop_zero, List.filterMap_map, List.map_map]
      generalize List.range n = xs
      induction xs with
      | nil => rfl
      | cons a r ih => rw [List.filterMap_cons, List.map_cons, ← ih]; rfl
    refine E_idx (E_var hg (E_const (w_wd_noted I2 ?_)))
    rw [e]
    refine W1.of (v := true) ?_ (q s' I2)
    have e2 : s'.mls[2]? = some (((List.range n).map fun m => (stood W).fl m).map V.bool) := by rw [I2.m2, List.map_map]; rfl
    generalize (List.range n).map (fun m => (stood W).fl m) = bs at e2 ⊢
    have hall : (bs.map V.bool).all V.sc = true := by rw [List.all_map, List.all_eq_true]; intro x _; rfl
    have e3 : eqS s' (.list (bs.map V.bool)) (.ml 2) = some true := by
      show (match some (bs.map V.bool), s'.mls[2]? with
        | some xs, some ys => if xs.all V.sc && ys.all V.sc then eqs1 xs ys else .none
        | _, _ => V.eq1 (.list (bs.map V.bool)) (.ml 2)) = _
      rw [e2]
      dsimp only
      rw [hall]
      exact eqs1_bools bs
    show (match some (bs.map V.bool), s'.mls[2]? with
      | some xs, some ys => if xs.length = ys.length then eqS s' (.list (bs.map V.bool)) (.ml 2) else some false
      | _, _ => eqS s' (.list (bs.map V.bool)) (.ml 2)) = _
    rw [e2]
    dsimp only
    rw [if_pos rfl, e3]
end
/-! lengths of tables -/
structure LL (w' w : WS) (c : Nat) : Prop where
  le : ∀ k < 2, (w'.tab k).length ≤ (w.tab k).length + c
theorem LL.same {w' w : WS} {c : Nat} (h : w'.tab = w.tab) : LL w' w c := ⟨fun k _ => by rw [h]; omega⟩
theorem LL.st {w : WS} {i c : Nat} {t : Tab} (h : t.length ≤ (w.tab (tb i)).length + c) : LL (w.st (tb i) t) w c := ⟨fun k _ => by
  show (upf w.tab (tb i) t k).length ≤ _
  unfold upf
  split
  · rename_i e; rw [e]; exact h
  · omega⟩
theorem LL.trans {a b c : WS} {x y z : Nat} (h1 : LL a b x) (h2 : LL b c y) (hz : x + y ≤ z) : LL a c z := ⟨fun k hk => by
  have := h1.le k hk
  have := h2.le k hk
  omega⟩
theorem LL.mono {a b : WS} {x y : Nat} (h1 : LL a b x) (hz : x ≤ y) : LL a b y := ⟨fun k hk => by
  have := h1.le k hk
  omega⟩
theorem shown_tab (i : Nat) (c : Int) (w : WS) : (shown i c w).tab = w.tab := by
  unfold shown
  split
  · exact (show2_tab ..).trans (settle_tab ..)
  · rfl
theorem taken_len (i : Nat) (x : Int) (w : WS) : LL (taken i x w) w 0 := by
  have h : LL (w.st (tb i) (tdel (w.tab (tb i)) x)) w 0 := LL.st (c := 0) (tdel_len ..)
  unfold taken
  exact LL.trans (LL.same (c := 0) (settle_tab ..)) h (by decide)
theorem added_len (i m : Nat) (g : Option Int) (s : Int) (b : Bool) (w : WS) : LL (added i m g s b w) w 1 := by
  unfold added
  split
  · exact LL.same rfl
  · split
    · exact LL.trans (LL.same (c := 0) (shown_tab ..)) (LL.st (tset_len ..)) (by decide)
    · exact LL.st (tset_len ..)
theorem ren_tab (i : Nat) (G : Int → Int) (w : WS) : (ren i G w).tab = w.tab := rfl
theorem ledIf_tab (k i : Nat) (G : Int → Int) (w : WS) : (ledIf k i G w).tab = w.tab := by unfold ledIf; split <;> rfl
theorem led_tab (k : Nat) (G : Int → Int) (w : WS) : (led k G w).tab = w.tab := by unfold led; rw [ledIf_tab, ledIf_tab, ledIf_tab]
theorem placed_len (i : Nat) (G : Int → Int) (w : WS) : LL (placed i G w) w 0 := by
  unfold placed
  exact LL.trans (LL.same (c := 0) (led_tab ..)) (LL.st (c := 0) remap_len) (by decide)
theorem moved_len (i : Nat) (x : Int) (j : Nat) (g : Option Int) (s : Int) (b : Bool) (w : WS) : LL (movedW i x j g s b w) w 1 := by
  unfold movedW
  split
  · exact LL.same rfl
  · split
    · split
      · exact LL.trans (LL.same (c := 0) (shown_tab ..)) (placed_len ..) (by decide)
      · exact (placed_len ..).mono (by decide)
    · exact LL.trans (added_len ..) (taken_len ..) (by decide)
theorem exch_len (i : Nat) (a : Int) (j : Nat) (b : Int) (w : WS) : LL (exch i a j b w) w 2 := by
  unfold exch
  split
  · exact LL.trans (LL.st (tset_len ..)) (LL.st (tset_len ..)) (by decide)
  · exact LL.same rfl
theorem nexted_tab (i : Nat) (b c : Bool) (w : WS) : (nexted i b c w).tab = w.tab := by
  unfold nexted
  split
  · rfl
  · split
    · rfl
    · exact shown_tab ..

/-! values that the law compares -/
def OkV (v : V) : Prop := ∀ s : St, cmpS s .ne v v = some false ∧ ∃ b, biS s .isbool v = some (.bool b, s)
theorem ok_oV (c : Option Int) : OkV (oV c) := fun s => ⟨by rw [ne_oV]; simp, by cases c <;> exact ⟨_, rfl⟩⟩
theorem ok_int (c : Int) : OkV (.int c) := ok_oV (some c)
theorem ok_bool (b : Bool) : OkV (.bool b) := fun s => ⟨by cases b <;> rfl, ⟨_, rfl⟩⟩
theorem ok_oN (c : Option Nat) : OkV (oN c) := by
  cases c with
  | none => exact ok_oV none
  | some c => exact ok_int c
theorem ok_tup (a : Option Int) (b : Int) : OkV (.tup [oV a, .int b]) := fun s => ⟨ne_tup (b := some b), ⟨_, rfl⟩⟩
theorem ok_pair (a : Option Int) (b : Int) : (V.tup [oV a, .int b]) = .tup [oV a, .int b] := rfl

section
variable {st : St} {h n : Nat} {W : WS} {i j : Nat} {cs : List Int}
set_option maxHeartbeats 2000000 in
theorem right_ok (I : Inv true st h n W W) (hi : i < 3) (hj : j < 3) (hh : h < 1000) (hn : n < 45) (hl : ∀ k < 2, (W.tab k).length ≤ 40) (hc : cs.length ≤ 1000) {k : Nat} {Q : V → St → Prop}
    (q : ∀ st' h' n' W' v, h' ≤ h + 6 → n ≤ n' → n' ≤ n + 1 → LL W' W 2 → OkV v → Inv true st' h' n' W' W' → Q (.tup [v, v]) st') :
    W2 (callF P (ev P (k + 120)) 20 [.list (cs.map .int), .ml 0, .sd 0, .int i, .int j] st) Q := by
  refine C_fn (l := [(57, .list (cs.map .int)), (58, .ml 0), (60, .sd 0), (53, .int i), (54, .int j)]) rfl rfl ?_
  dsimp only [N20]
  have hli := hl _ (tb_lt i)
  have hlj := hl _ (tb_lt j)
  walk_at "mux_r"
  refine draw_ok (B := 3) I (by omega) hc (by decide) fun s1 way hway I1 => ?_
  walk_at "mux_r"
  refine draw_ok (B := 6) I1 (by omega) hc (by decide) fun s2 x hx I2 => ?_
  walk_at "mux_r"
  refine draw_ok (B := 3) I2 (by omega) hc (by decide) fun s3 s hs I3 => ?_
  walk_at "mux_r"
  refine draw_ok (B := 5) I3 (by omega) hc (by decide) fun s4 g1 hg1 I4 => ?_
  walk_at "mux_r"
  refine draw_ok (B := 2) I4 (by omega) hc (by decide) fun s5 g2 hg2 I5 => ?_
  have hgv : getI s5 (.list [.none, .int g1]) (.int g2) = some (oV (if g2 = 0 then none else some (g1 : Int))) := by
    match g2, hg2 with
    | 0, _ => rfl
    | 1, _ => rfl
  refine W1.of hgv ?_
  generalize (if g2 = 0 then none else some (g1 : Int)) = g
  walk_at "mux_r"
  refine draw_ok (B := 2) I5 (by omega) hc (by decide) fun s6 b1 hb1 I6 => ?_
  walk_at "mux_r"
  generalize decide ((b1 : Int) = 0) = b
  refine S_ite ?_
  walk_at "mux_r"
  refine ⟨fun _ => ?_, fun h1 => ?_⟩
  · walk_at "mux_r"
    refine fresh_law I6 (by omega) fun s7 I7 => ?_
    have hnn : n < n + 1 := by omega
    walk_at "mux_r"
    refine added_real I7 hj hnn (by show (W.tab (tb j)).length < 50; omega) fun s8 I8 => ?_
    walk_at "mux_r"
    refine added_law I8 hj hnn (by show (W.tab (tb j)).length < 50; omega) (by omega) fun s9 I9 => ?_
    walk_at "mux_r"
    exact q s9 _ _ _ _ (by omega) (by omega) (by omega) (LL.trans (added_len ..) (LL.same (c := 0) (show (freshW n W).tab = W.tab from rfl)) (by decide)) (ok_oV _) I9
  walk_at "mux_r"
  refine S_ite (B_and ?_)
  walk_at "mux_r"
  refine ⟨fun h2 => ⟨nofun, fun _ => ?_⟩, fun h2 => ?_⟩
  rotate_left
  walk_at "mux_r"
  refine ⟨fun h3 => ?_, fun h3 => ?_⟩
  · have h4 := numAt_get h3
    have hmn := (I6.tL _ (tb_lt i)).lt h4
    walk_at "mux_r"
    refine link_real I6 hj hmn (by omega) fun s8 I8 => ?_
    walk_at "mux_r"
    refine added_law I8 hj hmn (by omega) (by omega) fun s9 I9 => ?_
    walk_at "mux_r"
    exact q s9 _ _ _ _ (by omega) (by omega) (by omega) ((added_len ..).mono (by decide)) (ok_oV _) I9
  all_goals
    walk_at "mux_r"
    refine group_real I6 hi ?_
    walk_at "mux_r"
    refine move_real I6 hi hj (by omega) fun s8 I8 => ?_
    walk_at "mux_r"
    refine moved_law I8 hi hj (by omega) (by omega) fun s9 I9 => ?_
    walk_at "mux_r"
    exact q s9 _ _ _ _ (by omega) (by omega) (by omega) ((moved_len ..).mono (by decide)) (ok_oV _) I9
end
theorem lookN_goals {s : St} {d : Nat} {x : Int} {ks : List Int} (hd4 : 4 ≤ d) (h : s.dicts[d]? = some (pairN x ks)) : GoalsAt s d (lookN x ks) := ⟨hd4, _, h, fun k => pairN_look⟩
theorem pairsV_enum {x : Int} : ∀ (ks : List Int) (j : Nat), pairsV ((enumFrom j (ks.map V.int)).filterMap fun v => match v with
    | .tup [.int a, .int k] => some (V.tup [.int k, .int (x + a)])
    | _ => none) = some (pairN (x + j) ks)
  | [], j => rfl
  | k :: ks, j => by
    have ih := pairsV_enum (x := x) ks (j + 1)
    rw [List.map_cons]
    unfold enumFrom
    rw [List.filterMap_cons]
    show pairsV (V.tup [.int k, .int (x + j)] :: _) = _
    unfold pairsV pairN
    rw [ih, show x + (j : Int) + 1 = x + ((j + 1 : Nat) : Int) by omega]; rfl
section
variable {st : St} {h n : Nat} {R L W : WS} {i j : Nat} {cs : List Int}
theorem enum_dict {x : Int} {l : Loc} {k : Nat} {Q : V → St → Prop} (I : Inv true st h n R L) (h62 : lget 62 l = some (.dict (tb i))) (h31 : lget 31 l = some (.int x)) (q : ∀ st' d, Inv true st' h n R L → GoalsAt st' d (lookN x (keys (L.tab (tb i)))) → Q (.dict d) st') :
    W2 ((ev P (k + 11)).E (.comp (.tup [.var 34, .bin .add (.var 31) (.var 73)]) (.tup [.var 73, .var 34]) (.enum (.bi .sorted (.var 62))) none) l st) fun v s => W2 (biS s .dict v) Q := by
  have ht := I.tL _ (tb_lt i)
  have hlen := ht.len
  refine E_comp (src_enum (E_bi (E_var h62 (bi_sortL I ⟨_, rfl, by rw [List.length_map, keys_len]; omega, ?_⟩))))
  have hv : Tg.vars (.tup [.var 73, .var 34]) = [73, 34] := by
    rw [Tg.vars, Tg.varsL, Tg.varsL, Tg.varsL, Tg.vars, Tg.vars]; rfl
  refine ⟨_, _, comp_gen (g := fun v => match v with
    | .tup [.int a, .int k] => some (V.tup [.int k, .int (x + a)])
    | _ => none) (fun v hv' => ?_), ?_⟩
  · obtain ⟨a, c, rfl⟩ : ∃ a c : Int, v = .tup [.int a, .int c] := by
      have key : ∀ (ks : List Int) (j : Nat) v, v ∈ enumFrom j (ks.map V.int) → ∃ a c : Int, v = .tup [.int a, .int c] := by
        intro ks
        induction ks with
        | nil => intro j v hm; cases hm
        | cons y r ih =>
          intro j v hm
          rw [List.map_cons] at hm
          unfold enumFrom at hm
          rcases List.mem_cons.mp hm with rfl | hm
          · exact ⟨_, _, rfl⟩
          · exact ih _ _ hm
      exact key _ _ _ hv'
    rw [hv]
    have h31' : lget 31 (lrm [73, 34] l) = some (.int x) := by rw [lget_lrm]; rw [if_neg (by decide)]; exact h31
    have key : W2 ((ev P (k + 10)).E (.tup [.var 34, .bin .add (.var 31) (.var 73)]) (upd 34 (.int c) (upd 73 (.int a) (lrm [73, 34] l))) st) fun v s' => v = V.tup [.int c, .int (x + a)] ∧ s' = st := by
      refine E_tup (L_cons (E_var (by rw [lget_upd, if_pos rfl]) (L_cons (E_bin (E_var (by rw [lget_upd, if_neg (by decide), lget_upd, if_neg (by decide)]; exact h31') (E_var (by rw [lget_upd, if_neg (by decide), lget_upd, if_pos rfl]) (b_add (L_nil ⟨Nat.le_of_ble_eq_true rfl, rfl, rfl⟩))))))))
    obtain ⟨v, s', h1, rfl, rfl⟩ := key
    simp only [compBody, assign, assigns]
    rw [if_pos (by rfl)]
    dsimp only
    rw [h1]
  · have hp := pairsV_enum (x := x) (keys (L.tab (tb i))) 0
    have e0 : x + ((0 : Nat) : Int) = x := by simp
    rw [e0] at hp
    refine W2.of (v := .dict st.dicts.length) (s := { st with dicts := st.dicts ++ [pairN x (keys (L.tab (tb i)))] }) ?_ (q _ _ (I.newDict _) (lookN_goals I.dlen (by show (st.dicts ++ [_])[st.dicts.length]? = _; simp)))
    show (if _ then _ else _) = _
    rw [if_pos (Nat.le_trans (List.length_filterMap_le ..) (by rw [enum_len, List.length_map, keys_len]; omega)), hp, Option.map_some, dmerge_app (by rw [pairN_keys]; exact keys_nodup ht.srt) (fun p _ hm => by cases hm)]; rfl
theorem w_gt0 {W : WS} (I : Inv true st h n W W) : True := trivial
set_option maxHeartbeats 4000000 in
theorem deed_ok (I : Inv true st h n W W) (hG : Good W) (hh : h < 900) (hn : n < 45) (hn0 : 0 < n) (hl : ∀ k < 2, (W.tab k).length ≤ 40) (hc : cs.length ≤ 1000) {k : Nat} {Q : V → St → Prop}
    (q : ∀ st' h' n' W' v, h' ≤ h + 12 → n ≤ n' → n' ≤ n + 1 → LL W' W 2 → OkV v → Inv true st' h' n' W' W' → Q (.tup [v, v]) st') :
    W2 (callF P (ev P (k + 140)) 21 [.list (cs.map .int), .ml 0, .sd 0] st) Q := by
  refine C_fn (l := [(57, .list (cs.map .int)), (58, .ml 0), (60, .sd 0)]) rfl rfl ?_
  dsimp only [N21]
  walk_at "mux_r"
  refine draw_ok (B := 3) I (by omega) hc (by decide) fun s1 i hi I1 => ?_
  walk_at "mux_r"
  refine draw_ok (B := 3) I1 (by omega) hc (by decide) fun s2 j hj I2 => ?_
  walk_at "mux_r"
  refine draw_ok (B := 11) I2 (by omega) hc (by decide) fun s3 way hway I3 => ?_
  have hli := hl _ (tb_lt i)
  have hlj := hl _ (tb_lt j)
  have hfi := hG i hi
  walk_at "mux_r"
  refine group_real I3 hi ?_
  walk_at "mux_r"
  refine S_ite ?_
  walk_at "mux_r"
  refine ⟨fun _ => ?_, fun _ => ?_⟩
  · walk_at "mux_r"
    refine right_ok I3 hi hj (by omega) hn hl hc fun s4 h4 n4 W4 v a1 a2 a3 a4 a5 I4 => ?_
    exact q s4 h4 n4 W4 v (by omega) a2 a3 a4 a5 I4
  walk_at "mux_r"
  refine S_ite ?_
  walk_at "mux_r"
  refine ⟨fun _ => ?_, fun _ => ?_⟩
  · walk_at "mux_r"
    refine last_real I3 hi (fun s4 I4 e => ?_) (fun s4 c e I4 => ?_)
    · rw [fine_eq hfi] at I4 e
      walk_at "mux_r"
      refine E_and ?_
      walk_at "mux_r"
      rw [e]
      refine ⟨fun _ => ?_, nofun⟩
      walk_at "mux_r"
      exact q s4 _ _ _ _ (by omega) (by omega) (by omega) (LL.same rfl) (ok_bool _) I4
    · rw [fine_eq hfi] at I4 e
      walk_at "mux_r"
      refine E_and ?_
      walk_at "mux_r"
      rw [e]
      refine ⟨nofun, fun _ => ?_⟩
      walk_at "mux_r"
      rw [e]
      refine shown_law I4 hi fun s5 I5 => ?_
      walk_at "mux_r"
      exact q s5 _ _ _ _ (by omega) (by omega) (by omega) (LL.same (shown_tab ..)) (ok_bool _) I5
  walk_at "mux_r"
  refine S_ite ?_
  walk_at "mux_r"
  refine ⟨fun _ => ?_, fun _ => ?_⟩
  · walk_at "mux_r"
    refine draw_ok (B := 2) I3 (by omega) hc (by decide) fun s4 b1 hb1 I4 => ?_
    walk_at "mux_r"
    refine draw_ok (B := 2) I4 (by omega) hc (by decide) fun s5 b2 hb2 I5 => ?_
    walk_at "mux_r"
    generalize decide ((b1 : Int) = 1) = back
    generalize decide ((b2 : Int) = 1) = noted
    refine next_real I5 hi (fine_eq hfi) (fun c e => fine_cur hfi e) fun s6 I6 => ?_
    walk_at "mux_r"
    refine next_law I6 hi fun s7 I7 => ?_
    walk_at "mux_r"
    exact q s7 _ _ _ _ (by omega) (by omega) (by omega) (LL.same (nexted_tab ..)) (ok_bool _) I7
  walk_at "mux_r"
  refine draw_ok (B := 6) I3 (by omega) hc (by decide) fun s4 x hx I4 => ?_
  walk_at "mux_r"
  refine S_ite ?_
  walk_at "mux_r"
  refine ⟨fun _ => ?_, fun _ => ?_⟩
  · walk_at "mux_r"
    refine shown_real I4 hi fun s5 I5 => ?_
    walk_at "mux_r"
    refine shown_law I5 hi fun s6 I6 => ?_
    walk_at "mux_r"
    exact q s6 _ _ _ _ (by omega) (by omega) (by omega) (LL.same (shown_tab ..)) (ok_bool _) I6
  walk_at "mux_r"
  refine S_ite ?_
  walk_at "mux_r"
  refine ⟨fun _ => ?_, fun _ => ?_⟩
  · walk_at "mux_r"
    refine take_real I4 hi fun s5 I5 => ?_
    walk_at "mux_r"
    refine bm_popL2 I5 fun s6 I6 => ?_
    walk_at "mux_r"
    refine settle_law I6 hi fun s7 I7 => ?_
    walk_at "mux_r"
    refine W2.to (v := oN (tget (W.tab (tb i)) x)) (s := s7) (E_ite ?_) ?_
    · cases e : tget (W.tab (tb i)) x with
      | none =>
        walk_at "mux_r"
        refine W1.of (v := true) rfl ⟨fun _ => ?_, nofun⟩
        walk_at "mux_r"
        exact ⟨rfl, rfl⟩
      | some m =>
        have hmn := (I4.tR _ (tb_lt i)).lt e
        walk_at "mux_r"
        refine W1.of (v := false) rfl ⟨nofun, fun _ => ?_⟩
        walk_at "mux_r"
        refine w_num I7 hmn ?_
        exact ⟨rfl, rfl⟩
    walk_at "mux_r"
    exact q s7 _ _ _ _ (by omega) (by omega) (by omega) ((taken_len ..).mono (by decide)) (ok_oN _) I7
  walk_at "mux_r"
  refine S_ite ?_
  walk_at "mux_r"
  refine ⟨fun _ => ?_, fun _ => ?_⟩
  · walk_at "mux_r"
    refine E_objs (fun k => !decide (k = i)) ?_
    walk_at "mux_r"
    refine ⟨mts i, rfl, by have := mts_len (i := i); omega, fun k hk => ?_, ?_⟩
    · walk_at "mux_r"
      exact c_isnotO ⟨rfl, rfl⟩
    walk_at "mux_r"
    refine room_real I4 hi (by omega) (by omega) fun s5 I5 => ?_
    walk_at "mux_r"
    refine room_law I5 hi (by omega) fun s6 I6 => ?_
    walk_at "mux_r"
    exact q s6 _ _ _ _ (by omega) (by omega) (by omega) (by unfold roomed; exact (placed_len ..).mono (by decide)) (ok_int _) I6
  walk_at "mux_r"
  refine S_ite ?_
  walk_at "mux_r"
  refine ⟨fun _ => ?_, fun _ => ?_⟩
  · walk_at "mux_r"
    refine renum_real I4 hi fun s5 I5 => ?_
    walk_at "mux_r"
    refine enum_dict (i := i) I5 rfl rfl fun s6 d6 I6 hG6 => ?_
    walk_at "mux_r"
    refine placed_law I6 hG6 fun s7 I7 => ?_
    walk_at "mux_r"
    exact q s7 _ _ _ _ (by omega) (by omega) (by omega) (by unfold renumd; exact (placed_len ..).mono (by decide)) (ok_int _) I7
  walk_at "mux_r"
  refine S_ite ?_
  walk_at "mux_r"
  refine ⟨fun _ => ?_, fun _ => ?_⟩
  · walk_at "mux_r"
    refine draw_ok (B := 6) I4 (by omega) hc (by decide) fun s5 y hy I5 => ?_
    walk_at "mux_r"
    refine swap_real I5 hi hj hli hlj fun s6 I6 => ?_
    walk_at "mux_r"
    refine swap_law I6 hi hj hli hlj fun s7 I7 => ?_
    walk_at "mux_r"
    exact q s7 _ _ _ _ (by omega) (by omega) (by omega) (exch_len ..) (ok_bool _) I7
  have hmn : x % n < n := Nat.mod_lt _ hn0
  walk_at "mux_r"
  refine bi_lenM I4 ?_
  refine W1.of (v := .int ((x % n : Nat) : Int)) ?_ ?_
  · show (if _ then _ else _) = _
    rw [if_pos (by omega), Int.fmod_eq_emod_of_nonneg _ (by omega)]; rfl
  generalize x % n = m at hmn
  walk_at "mux_r"
  refine draw_ok (B := 2) I4 (by omega) hc (by decide) fun s5 b1 hb1 I5 => ?_
  walk_at "mux_r"
  refine draw_ok (B := 3) I5 (by omega) hc (by decide) fun s6 b2 hb2 I6 => ?_
  walk_at "mux_r"
  generalize decide ((b1 : Int) = 1) = rung
  generalize decide ((b2 : Int) = 0) = seen
  refine note_real I6 hmn fun s7 I7 => ?_
  walk_at "mux_r"
  refine W2.to (v := .bool (W.fl m || !seen)) (s := s7) (E_or ?_) ?_
  · walk_at "mux_r"
    refine ⟨fun e => ⟨by rw [e]; rfl, rfl⟩, fun e => ?_⟩
    refine E_not (E_var rfl (ex_bool ⟨by rw [e]; rfl, rfl⟩))
  walk_at "mux_r"
  refine set_noted I7 hmn fun s8 I8 => ?_
  have I8' : Inv true s8 (h + 1 + 1 + 1 + 1 + 1 + 1) n (noteW m seen W) (noteW m seen W) := I8
  clear I8
  have ht := I8'.tL _ (tb_lt i)
  have hlen := ht.len
  have htt : (noteW m seen W).tab (tb i) = W.tab (tb i) := rfl
  walk_at "mux_r"
  refine E_filter (fun c => decide (numAt (W.tab (tb i)) c = m)) ?_
  walk_at "mux_r"
  refine ⟨_, rfl, by rw [keys_len]; omega, fun c hck => ?_, ?_⟩
  · have hcm := numAt_get (inT_keys ht.srt hck)
    walk_at "mux_r"
    refine ⟨?_, rfl⟩
    rw [htt]
    by_cases e : numAt (W.tab (tb i)) c = m
    · simp [e]
    · have : ¬ ((numAt (W.tab (tb i)) c : Nat) : Int) = (m : Int) := by omega
      simp [e, this]
  walk_at "mux_r"
  refine W2.via (oV (idxW (W.tab (tb i)) m)) (fun s' => Inv true s' (h + 1 + 1 + 1 + 1 + 1 + 1) n (noteW m seen W) (noteW m seen W)) (E_ite (B_ne_ml ?_)) fun s9 I9 => ?_
  · walk_at "mux_r"
    refine ⟨_, rfl, ?_⟩
    have I9 := I8'.newMl []
    have hx : idxW (W.tab (tb i)) m = ((keys ((noteW m seen W).tab (tb i))).filter fun c => decide (numAt (W.tab (tb i)) c = m)).head? := rfl
    rw [hx]
    generalize (keys ((noteW m seen W).tab (tb i))).filter (fun c => decide (numAt (W.tab (tb i)) c = m)) = fs
    cases fs with
    | nil =>
      refine ⟨nofun, fun _ => ?_⟩
      walk_at "mux_i"
      exact ⟨rfl, I9⟩
    | cons a r =>
      refine ⟨fun _ => ?_, nofun⟩
      walk_at "mux_i"
      exact W1.of (at_head (by simp) 0) ⟨rfl, I9⟩
  walk_at "mux_r"
  refine free_law I9 (by omega) ?_
  walk_at "mux_r"
  refine idx_real I9 hi ?_
  walk_at "mux_r"
  refine free_real I9 hi ?_
  walk_at "mux_r"
  exact q s9 (h + 1 + 1 + 1 + 1 + 1 + 1) n (noteW m seen W) _ (by omega) (by omega) (by omega) (LL.same rfl) (ok_tup _ _) I9
end
def W0 : WS := ⟨fun _ => [], fun _ => none, fun _ => none, fun _ => false⟩
def st1 : St := ⟨[], [], [], [], [[], [], [], []], [worldF false], [[.int 0], [], [], []]⟩
theorem inv0 : Inv false st1 0 0 W0 W0 where
  hb := by decide
  nb := by decide
  m0 := rfl
  m1 := rfl
  m2 := rfl
  m3 := rfl
  s0 := rfl
  sr := nofun
  dL := fun k hk => ⟨[], match k, hk with
    | 0, _ => rfl
    | 1, _ => rfl, Rep.nil⟩
  dR := fun k hk => ⟨[], match k, hk with
    | 0, _ => rfl
    | 1, _ => rfl, Rep.nil⟩
  tL := fun k hk => ⟨srt_nil, Nat.zero_le _, fun p hp => by cases hp⟩
  tR := fun k hk => ⟨srt_nil, Nat.zero_le _, fun p hp => by cases hp⟩
  ss := nofun
  ww := fun k hk => by omega
  wl := rfl
  pl := rfl
  cl := rfl
  z := fun _ => ⟨rfl, rfl⟩
def cellsOf (ns : List Int) : List Int := (ns.take 60).map fun k => k.fmod 1000000

section
variable {st : St} {h n : Nat} {W : WS} {i : Nat} {cs : List Int} {l : Loc}
/-- one place of the setup -/
theorem put_ok {x : Int} (I : Inv false st h n W W) (hn : n < 40) (hl : ∀ k < 2, (W.tab k).length ≤ 40) {k : Nat} {Q : Fl → Loc → St → Prop} {e1 e2 : PE}
    (h60 : lget 60 l = some (.sd 0)) (he1 : e1 = .var 73 ∧ lget 73 l = some (.int (tb i)) ∨ e1 = .const (.int (tb i))) (he2 : e2 = .var 31 ∧ lget 31 l = some (.int x) ∨ e2 = .const (.int x))
    (q : ∀ st' W', Inv false st' h (n + 1) W' W' → LL W' W 1 → Q .next (upd 7 (.int n) l) st') :
    W3 (exB (ev P (k + 80)) [.asg (.var 7) (.call 9 [.var 60]), .asg (.tup [.idx (.idx (.idx (.var 60) (.const (.str 64))) e1) e2, .idx (.idx (.idx (.var 60) (.const (.str 76))) e1) e2]) (.tup [.var 7, .idx (.idx (.var 60) (.const (.str 23))) (.var 7)])] l st) Q := by
  refine X_cons (S_asg (E_call (L_cons (E_var h60 (L_nil (fresh_law I (by omega) fun s1 I1 => A_var ?_))))))
  have g60 : lget 60 (upd 7 (.int n) l) = some (.sd 0) := by rw [lget_upd, if_neg (by decide)]; exact h60
  have hnn : n < n + 1 := by omega
  have he1' : ∀ {m : Nat} {st : St} {Q : V → St → Prop}, Q (.int (tb i)) st → W2 ((ev P (m + 1)).E e1 (upd 7 (.int n) l) st) Q := fun {m st Q} hq => by
    rcases he1 with ⟨rfl, h⟩ | rfl
    · exact E_var (by rw [lget_upd, if_neg (by decide)]; exact h) hq
    · exact E_const hq
  have he2' : ∀ {m : Nat} {st : St} {Q : V → St → Prop}, Q (.int x) st → W2 ((ev P (m + 1)).E e2 (upd 7 (.int n) l) st) Q := fun {m st Q} hq => by
    rcases he2 with ⟨rfl, h⟩ | rfl
    · exact E_var (by rw [lget_upd, if_neg (by decide)]; exact h) hq
    · exact E_const hq
  refine X_cons (S_asg (E_tup (L_cons (E_var (by rw [lget_upd, if_pos rfl]) (L_cons (E_idx (E_idx (E_var g60 (E_const (w_wd_wins I1 (E_var (by rw [lget_upd, if_pos rfl]) (w_win I1 hnn (L_nil ⟨Nat.le_of_ble_eq_true rfl, ?_⟩)))))))))))))
  have hli := hl _ (tb_lt i)
  refine A_tup2 (A_idx (E_idx (E_idx (E_var g60 (E_const (w_wd_tabs I1 (he1' (w_ls_tabs (he2' (w_setL I1 hnn (by show (W.tab (tb i)).length < 50; omega) fun s2 I2 => ?_))))))))))
  refine A_idx (E_idx (E_idx (E_var g60 (E_const (w_wd_real I2 (he1' (w_ls_real (he2' (w_setR I2 hnn (by show (W.tab (tb i)).length < 50; omega) fun s3 I3 => ?_)))))))))
  exact X_nil (q s3 _ I3 (LL.trans (LL.st (tset_len ..)) (LL.same (c := 0) rfl) (by decide)))
theorem forL_nil {r : Rec} {t : Tg} {b : List PS} {Q : Fl → Loc → St → Prop} (q : Q .next l st) : W3 (forL P r t b [] l st) Q := ⟨_, _, _, by simp only [forL], q⟩
theorem forL_cons {r : Rec} {t : Tg} {b : List PS} {x : V} {xs : List V} {Q : Fl → Loc → St → Prop} (h : W2 (assign P r t x l st) fun l s => W3 (exB r b l s) fun f l s => match f with
    | .next => W3 (forL P r t b xs l s) Q
    | .ret v => Q (.ret v) l s) : W3 (forL P r t b (x :: xs) l st) Q := by
  obtain ⟨l1, s1, h1, f, l2, s2, h2, q⟩ := h
  cases f with
  | next =>
    obtain ⟨f, l3, s3, h3, q⟩ := q
    exact ⟨_, _, _, by simp only [forL, h1, h2, h3], q⟩
  | ret v => exact ⟨_, _, _, by simp only [forL, h1, h2], q⟩
structure LG (cs : List Int) (i : Nat) (l : Loc) : Prop where
  g57 : lget 57 l = some (.list (cs.map .int))
  g58 : lget 58 l = some (.ml 0)
  g60 : lget 60 l = some (.sd 0)
  g73 : lget 73 l = some (.int (tb i))
theorem LG.upd {cs : List Int} {i x : Nat} {v : V} {l : Loc} (g : LG cs i l) (hx : x = 31 ∨ x = 7) : LG cs i (upd x v l) := by
  have key : ∀ j, j ≠ x → lget j (Mux.upd x v l) = lget j l := fun j hj => by rw [lget_upd, if_neg hj]
  exact ⟨(key 57 (by omega)).trans g.g57, (key 58 (by omega)).trans g.g58, (key 60 (by omega)).trans g.g60, (key 73 (by omega)).trans g.g73⟩
def innerB : List PS := [.ite (.cmp .eq (.call 8 [.var 57, .var 58, .const (.int (2))]) (.const (.int (1)))) [.asg (.var 7) (.call 9 [.var 60]), .asg (.tup [.idx (.idx (.idx (.var 60) (.const (.str 64))) (.var 73)) (.var 31), .idx (.idx (.idx (.var 60) (.const (.str 76))) (.var 73)) (.var 31)]) (.tup [.var 7, .idx (.idx (.var 60) (.const (.str 23))) (.var 7)])] []]
theorem inner_ok (hc : cs.length ≤ 1000) {k : Nat} {Q : Fl → Loc → St → Prop} : ∀ (xs : List Int) {st : St} {h n : Nat} {W : WS} {l : Loc}, LG cs i l → Inv false st h n W W → n + xs.length ≤ 40 → h + xs.length ≤ 100 → (∀ k < 2, (W.tab k).length + xs.length ≤ 40) →
    (∀ st' l' h' n' W', LG cs i l' → Inv false st' h' n' W' W' → h' ≤ h + xs.length → n' ≤ n + xs.length → LL W' W xs.length → Q .next l' st') →
    W3 (forL P (ev P (k + 90)) (.var 31) innerB (xs.map .int) l st) Q
  | [], st, h, n, W, l, g, I, _, _, _, q => forL_nil (q st l h n W g I (Nat.le_refl _) (Nat.le_refl _) (LL.same rfl))
  | x :: xs, st, h, n, W, l, g, I, hn, hh, hl, q => by
    rw [List.length_cons] at hn hh q
    have hl1 : ∀ k < 2, (W.tab k).length + (xs.length + 1) ≤ 40 := hl
    have g1 : LG cs i (upd 31 (.int x) l) := g.upd (.inl rfl)
    refine forL_cons (A_var ?_)
    refine X_cons (S_ite (B_cmp (E_call ?_)))
    refine L_cons (E_var g1.g57 (L_cons (E_var g1.g58 (L_cons (E_const (L_nil ?_))))))
    refine draw_ok (B := 2) I (by omega) hc (by decide) fun s1 d hd I1 => ?_
    refine E_const (c_eqI ⟨fun _ => ?_, fun _ => ?_⟩)
    · refine put_ok (x := x) I1 (by omega) (fun k hk => by have := hl1 k hk; omega) g1.g60 (.inl ⟨rfl, g1.g73⟩) (.inl ⟨rfl, by rw [lget_upd, if_pos rfl]⟩) fun s2 W2 I2 hL => ?_
      refine X_nil (inner_ok hc xs (g1.upd (.inr rfl)) I2 (by omega) (by omega) (fun k hk => by have := hl1 k hk; have := hL.le k hk; omega) fun s3 l3 h3 n3 W3 g3 I3 a1 a2 a3 => ?_)
      exact q s3 l3 h3 n3 W3 g3 I3 (by omega) (by omega) (LL.trans a3 hL (Nat.le_refl _))
    · refine X_nil (X_nil (inner_ok hc xs g1 I1 (by omega) (by omega) (fun k hk => by have := hl1 k hk; omega) fun s3 l3 h3 n3 W3 g3 I3 a1 a2 a3 => ?_))
      exact q s3 l3 h3 n3 W3 g3 I3 (by omega) (by omega) (a3.mono (by omega))
end
def hd0 (t : Tab) : Option Int := (keys t).head?
def sF (i : Nat) (c : Option Int) : Fields := [(7, .int i), (15, .bytes (nameB i)), (23, .dict (2 + tb i)), (24, grp i), (14, .none), (18, .none), (25, oV c)]
def so (st : St) (xs : List Fields) : St := { st with sess := xs }
section
variable {st : St} {h n : Nat} {W : WS} {i : Nat} {l : Loc} {xs : List Fields}
theorem s_set {a : Nat} {v : V} {f : Fields} {Q : St → Prop} (hx : xs.length = i) (ha : P.attr 3 a = true) (hl : Nat.ble f.length 900 = true) (q : Q (so st (xs ++ [upd a v f]))) : W1 (setA P (so st (xs ++ [f])) a v (.obj 3 i)) Q := by
  refine W1.of ?_ q
  unfold setA; dsimp only
  rw [if_pos ha]
  show (((xs ++ [f])[i]?).bind _) = _
  rw [last_get hx, Option.bind_some, if_pos (Nat.le_of_ble_eq_true hl)]
  show some ({ so st (xs ++ [f]) with sess := (xs ++ [f]).set i (upd a v f) } : St) = _
  rw [last_set hx]; rfl
theorem s_get {a : Nat} {v : V} {f : Fields} {Q : V → Prop} (hx : xs.length = i) (ha : P.attr 3 a = true) (hv : lget a f = some v) (q : Q v) : W1 (getA P (so st (xs ++ [f])) a (.obj 3 i)) Q := by
  refine W1.of ?_ q
  unfold getA; dsimp only
  rw [if_pos ha]
  show (((xs ++ [f])[i]?).bind _) = _
  rw [last_get hx, Option.bind_some, hv]
theorem s_new {r : Rec} {vs : List V} {Q : V → St → Prop} (hx : xs.length = i) (q : W2 (callF P r 103 (.obj 3 i :: vs) (so st (xs ++ [[]]))) fun v s' => v = .none ∧ Q (.obj 3 i) s') : W2 (newF P r 3 vs (so st xs)) Q := by
  have e : (so st xs).objs 3 = xs := rfl
  refine N_new (by decide) rfl ?_
  rw [e, hx]
  exact q
theorem sess_init (I : Inv false st h n W W) (hx : xs.length = i) {k : Nat} {vs : List V} (hb : bindP N103.params N103.defs vs = some [(26, .obj 3 i), (7, .int i), (15, .bytes (nameB i)), (23, .dict (2 + tb i)), (24, grp i)]) {Q : V → St → Prop} (q : Q .none (so st (xs ++ [sF i (hd0 (W.tab (tb i)))]))) :
    W2 (callF P (ev P (k + 20)) 103 vs (so st (xs ++ [[]]))) Q := by
  refine C_fn rfl hb ?_
  dsimp only [N103]
  refine X_cons (S_asg (E_var rfl (A_attr (E_var rfl (s_set hx rfl rfl ?_)))))
  refine X_cons (S_asg (E_var rfl (A_attr (E_var rfl (s_set hx rfl rfl ?_)))))
  refine X_cons (S_asg (E_ite (B_cmp (E_var rfl (E_const (W1.of (v := false) rfl ⟨nofun, fun _ => E_var rfl (A_attr (E_var rfl (s_set hx rfl rfl ?_)))⟩))))))
  refine X_cons (S_asg (E_var rfl (A_attr (E_var rfl (s_set hx rfl rfl ?_)))))
  refine X_cons (S_asg (E_const (A_attr (E_var rfl (s_set hx rfl rfl ?_)))))
  refine X_cons (S_asg (E_const (A_attr (E_var rfl (s_set hx rfl rfl ?_)))))
  have hD : ∀ ys, DictAt (so st ys) (2 + tb i) encO (W.tab (tb i)) := fun ys => I.dR _ (tb_lt i)
  have ht := I.tR _ (tb_lt i)
  refine X_cons (S_asg ?_)
  refine W2.to (v := oV (hd0 (W.tab (tb i)))) (s := so st (xs ++ [upd 18 .none (upd 14 .none (upd 24 (grp i) (upd 23 (.dict (2 + tb i)) (upd 15 (.bytes (nameB i)) (upd 7 (.int i) [])))))])) (E_ite ?_) (A_attr (E_var rfl (s_set hx rfl rfl ?_)))
  refine B_cmp (E_bi (E_attr (E_var rfl (s_get hx rfl rfl ?_))))
  refine W2.of ((hD _).len ht) (E_const (c_gt ⟨fun e => ?_, fun e => ?_⟩))
  · have hne : W.tab (tb i) ≠ [] := fun e2 => by rw [e2] at e; simp at e
    refine E_bi (E_attr (E_var rfl (s_get hx rfl rfl (W2.of ((hD _).min ht hne 0) ⟨?_, rfl⟩))))
    unfold hd0
    cases e2 : keys (W.tab (tb i)) with
    | nil => exact absurd (keys_nil.mp e2) hne
    | cons a r => rfl
  · have hne : W.tab (tb i) = [] := by
      have := of_decide_eq_false e
      exact List.length_eq_zero_iff.mp (by omega)
    refine E_const ⟨?_, rfl⟩
    rw [hne]; rfl
  · exact X_nil q
def fin (st : St) (S : List Fields) (rs : List (List (Nat × V))) (ms : List V) : St := { st with sess := S, sds := worldF true :: rs, mls := st.mls.set 3 ms }
def rF (i : Nat) (c : Option Int) : List (Nat × V) := [(62, .int (tb i)), (25, oV c), (18, .none)]
def rowB : List PS := [.asg (.var 55) (.bin .add (.bi .sorted (.idx (.idx (.var 60) (.const (.str 64))) (.var 66))) (.list [.const (V.none)])), .expr (.bm .append (.idx (.var 60) (.const (.str 9))) [.sdict [62, 25, 18] [.var 66, .idx (.var 55) (.const (.int (0))), .const (V.none)]])]
theorem add_none {s : St} {ks : List Int} (hk : ks.length ≤ 900) : binS s .add (.list (ks.map V.int)) (.list [.none]) = some (.list (ks.map V.int ++ [.none])) := by
  show (if _ then _ else _) = _
  rw [if_pos (by simp; omega)]
theorem row_ok (I : Inv false st h n W W) {S : List Fields} {rs : List (List (Nat × V))} {ms : List V} (hm : ms.length ≤ 10) {k : Nat} {Q : Fl → Loc → St → Prop} (h60 : lget 60 l = some (.sd 0)) (h66 : lget 66 l = some (.int (tb i)))
    (q : ∀ v, Q .next (upd 55 v l) (fin st S (rs ++ [rF i (hd0 (W.tab (tb i)))]) (ms ++ [.sd (1 + rs.length)]))) : W3 (exB (ev P (k + 30)) rowB l (fin st S rs ms)) Q := by
  have hD : DictAt (fin st S rs ms) (tb i) encI (W.tab (tb i)) := I.dL _ (tb_lt i)
  have ht := I.tL _ (tb_lt i)
  have hlen := ht.len
  have hl3 := get_lt I.m3
  refine X_cons (S_asg (E_bin (E_bi (E_idx (E_idx (E_var h60 (E_const (W1.of (v := .list tabsL) rfl ?_))))))))
  refine E_var h66 (w_ls_tabs ?_)
  refine W2.of (hD.sorted ht) ?_
  refine E_list (L_cons (E_const (L_nil ⟨by decide, ?_⟩)))
  refine W1.of (add_none (by rw [List.length_map]; omega)) (A_var ?_)
  have g60 : lget 60 (upd 55 (.list ((W.tab (tb i)).map (·.1) |>.map V.int |> fun z => z ++ [.none])) l) = some (.sd 0) := by rw [lget_upd, if_neg (by decide)]; exact h60
  have g66 : lget 66 (upd 55 (.list ((W.tab (tb i)).map (·.1) |>.map V.int |> fun z => z ++ [.none])) l) = some (.int (tb i)) := by rw [lget_upd, if_neg (by decide)]; exact h66
  have h0 : ∀ s : St, getI s (.list ((W.tab (tb i)).map (·.1) |>.map V.int |> fun z => z ++ [.none])) (.int 0) = some (oV (hd0 (W.tab (tb i)))) := fun s => by
    show at? _ _ = _
    unfold hd0 keys
    cases (W.tab (tb i)).map (·.1) <;> rfl
  have hsd : (fin st S rs ms).sds.length = 1 + rs.length := by show (worldF true :: rs).length = _; rw [List.length_cons]; omega
  refine X_cons (S_expr (E_bm (E_idx (E_var g60 (E_const (W1.of (v := .ml 3) rfl ?_))))))
  refine L_cons (E_sdict ?_)
  refine L_cons (E_var g66 ?_)
  refine L_cons (E_idx (E_var (by rw [lget_upd, if_pos rfl]) (E_const (W1.of (h0 _) ?_))))
  refine L_cons (E_const (L_nil ⟨?_, rfl, L_nil ?_⟩))
  · show (worldF true :: rs ++ [[]])[(worldF true :: rs).length]? = _
    simp
  · have hms : (st.mls.set 3 ms)[3]? = some ms := List.getElem?_set_self hl3
    refine W2.of (v := .none) (s := fin st S (rs ++ [rF i (hd0 (W.tab (tb i)))]) (ms ++ [.sd (1 + rs.length)])) ?_ (X_nil (q _))
    show (((st.mls.set 3 ms)[3]?).bind _) = _
    rw [hms, Option.bind_some, if_pos (by omega)]
    rw [hsd]
    unfold fin
    have e1 : (worldF true :: rs ++ [[]]).set (1 + rs.length) ([62, 25, 18].zip [V.int (tb i), oV (hd0 (W.tab (tb i))), V.none]) = worldF true :: (rs ++ [rF i (hd0 (W.tab (tb i)))]) := by
      rw [List.cons_append, show 1 + rs.length = rs.length + 1 by omega, List.set_cons_succ, last_set rfl]; rfl
    show some (V.none, ({ st with sess := S, sds := (worldF true :: rs ++ [[]]).set (1 + rs.length) ([62, 25, 18].zip [V.int (tb i), oV (hd0 (W.tab (tb i))), V.none]), mls := (st.mls.set 3 ms).set 3 (ms ++ [V.sd (1 + rs.length)]) } : St)) = _
    rw [e1, List.set_set]
end
structure LH (cs : List Int) (l : Loc) : Prop where
  g57 : lget 57 l = some (.list (cs.map .int))
  g58 : lget 58 l = some (.ml 0)
  g60 : lget 60 l = some (.sd 0)
theorem LH.upd {cs : List Int} {x : Nat} {v : V} {l : Loc} (g : LH cs l) (hx : x ≠ 57 ∧ x ≠ 58 ∧ x ≠ 60) : LH cs (upd x v l) := by
  have key : ∀ j, j ≠ x → lget j (Mux.upd x v l) = lget j l := fun j hj => by rw [lget_upd, if_neg hj]
  exact ⟨(key 57 (by omega)).trans g.g57, (key 58 (by omega)).trans g.g58, (key 60 (by omega)).trans g.g60⟩
section
variable {st : St} {h n : Nat} {W : WS} {cs : List Int} {l : Loc}
theorem good_stood (I : Inv true st h n W W) : Good (stood W) := stood_good fun k hk => (I.tR k hk).srt
def turnB : List PS := [.asg (.tup [.var 72, .var 74]) (.call 21 [.var 57, .var 58, .var 60]), .ite (.bop false [.cmp .ne (.var 72) (.var 74), .cmp .ne (.bi .isbool (.var 72)) (.bi .isbool (.var 74)), .not (.call 22 [.var 60])]) [.ret (some (.const (.bool false)))] []]
theorem turns_ok (hc : cs.length ≤ 1000) {k : Nat} {Q : Fl → Loc → St → Prop} : ∀ (xs : List V) {st : St} {h n : Nat} {W : WS} {l : Loc}, LH cs l → Inv true st h n W W → Good W → 0 < n → h + 12 * xs.length ≤ 800 → n + xs.length ≤ 40 → (∀ k < 2, (W.tab k).length + 2 * xs.length ≤ 38) →
    (∀ st' l', Q .next l' st') → W3 (forL P (ev P (k + 170)) (.var 78) turnB xs l st) Q
  | [], st, h, n, W, l, g, I, hG, hn0, hh, hn, hl, q => forL_nil (q st l)
  | x :: xs, st, h, n, W, l, g, I, hG, hn0, hh, hn, hl, q => by
    rw [List.length_cons] at hh hn
    have hl1 : ∀ k < 2, (W.tab k).length + 2 * (xs.length + 1) ≤ 38 := hl
    have g1 : LH cs (upd 78 x l) := g.upd (by decide)
    refine forL_cons (A_var ?_)
    refine X_cons (S_asg (E_call ?_))
    refine L_cons (E_var g1.g57 (L_cons (E_var g1.g58 (L_cons (E_var g1.g60 (L_nil ?_))))))
    refine deed_ok I hG (by omega) (by omega) hn0 (fun k hk => by have := hl1 k hk; omega) hc fun s1 h1 n1 X1 v a1 a2 a3 a4 hv I1 => ?_
    refine A_tup2 (A_var (A_var ?_))
    have g2 : LH cs (upd 74 v (upd 72 v (upd 78 x l))) := (g1.upd (by decide)).upd (by decide)
    have h72 : lget 72 (upd 74 v (upd 72 v (upd 78 x l))) = some v := by rw [lget_upd, if_neg (by decide), lget_upd, if_pos rfl]
    have h74 : lget 74 (upd 74 v (upd 72 v (upd 78 x l))) = some v := by rw [lget_upd, if_pos rfl]
    obtain ⟨hv1, b, hv2⟩ := hv s1
    refine X_cons (S_ite (B_or3 ?_))
    refine B_cmp (E_var h72 (E_var h74 (W1.of hv1 ⟨nofun, fun _ => ?_⟩)))
    refine B_cmp (E_bi (E_var h72 (W2.of hv2 (E_bi (E_var h74 (W2.of hv2 (W1.of (v := false) ?_ ⟨nofun, fun _ => ?_⟩)))))))
    · exact ((ok_bool b) s1).1
    refine B_not (B_call (L_cons (E_var g2.g60 (L_nil ?_))))
    refine stand_ok I1 fun s2 I2 => ⟨true, rfl, nofun, fun _ => ?_⟩
    refine X_nil (X_nil (turns_ok hc xs g2 I2 (good_stood I1) (by omega) (by omega) (by omega) (fun k hk => ?_) q))
    have := hl1 k hk
    have := a4.le k hk
    rw [stood_tab]
    omega
def WF (W : WS) : WS := { W with cur := fun i => hd0 (W.tab (tb i)), last := fun _ => none }
theorem inv_fin (I : Inv false st h n W W) : Inv true (fin st [sF 0 (hd0 (W.tab 0)), sF 1 (hd0 (W.tab 0)), sF 2 (hd0 (W.tab 1))] [rF 0 (hd0 (W.tab 0)), rF 1 (hd0 (W.tab 0)), rF 2 (hd0 (W.tab 1))] [.sd 1, .sd 2, .sd 3]) h n (WF W) (WF W) := by
  have hl3 := get_lt I.m3
  have key : ∀ {k : Nat} {x : List V} {y : List V}, k ≠ 3 → st.mls[k]? = some x → (st.mls.set 3 y)[k]? = some x := fun {k x y} hk e => by rw [← e]; exact List.getElem?_set_ne (Ne.symm hk)
  exact {
    hb := I.hb, nb := I.nb, m0 := key (by decide) I.m0, m1 := key (by decide) I.m1, m2 := key (by decide) I.m2, m3 := List.getElem?_set_self hl3,
    s0 := rfl,
    sr := fun _ i hi => match i, hi with
      | 0, _ => rfl
      | 1, _ => rfl
      | 2, _ => rfl,
    dL := I.dL, dR := I.dR, tL := I.tL, tR := I.tR,
    ss := fun _ i hi => match i, hi with
      | 0, _ => rfl
      | 1, _ => rfl
      | 2, _ => rfl,
    ww := I.ww, wl := I.wl, pl := I.pl, cl := I.cl, z := nofun }
theorem B_eqml {k : Nat} {Q : Bool → St → Prop} (I : Inv false st h n W W) (h60 : lget 60 l = some (.sd 0)) (q : ∀ st', Inv false st' h n W W → Q (decide (n = 0)) st') : W2 ((ev P (k + 6)).B (.cmp .eq (.idx (.var 60) (.const (.str 23))) (.ml [])) l st) Q := by
  have I1 := I.newMl []
  refine B_cmp (E_idx (E_var h60 (E_const (w_wd_wins I (E_ml (L_nil ⟨by decide, W1.of ?_ (q _ I1)⟩))))))
  have e1 : (st.mls ++ [[]])[1]? = some ((List.range n).map fun k => V.obj 2 k) := (get_app (get_lt I.m1)).trans I.m1
  have e2 : (st.mls ++ [[]])[st.mls.length]? = some [] := by simp
  show (match (st.mls ++ [[]])[1]?, (st.mls ++ [[]])[st.mls.length]? with
    | some xs, some ys => if xs.length = ys.length then eqS { st with mls := st.mls ++ [[]] } (.ml 1) (.ml st.mls.length) else some false
    | _, _ => eqS { st with mls := st.mls ++ [[]] } (.ml 1) (.ml st.mls.length)) = _
  rw [e1, e2]
  dsimp only
  by_cases e : n = 0
  · subst e
    rw [if_pos (by simp)]
    show (match (st.mls ++ [[]])[1]?, (st.mls ++ [[]])[st.mls.length]? with
      | some xs, some ys => if xs.all V.sc && ys.all V.sc then eqs1 xs ys else .none
      | _, _ => V.eq1 (.ml 1) (.ml st.mls.length)) = _
    rw [e1, e2]; rfl
  · rw [if_neg (by simpa using e)]; simp [e]
theorem fin_of (I : Inv false st h n W W) {S : List Fields} : ({ so st S with sds := st.sds.set 0 (worldF true) } : St) = fin st S [] [] := by
  obtain ⟨h1, h2⟩ := I.z rfl
  unfold fin so
  have e1 : st.sds.set 0 (worldF true) = [worldF true] := by
    match h : st.sds with
    | [] => rw [h] at h1; cases h1
    | [a] => rfl
    | a :: b :: r => rw [h] at h1; simp at h1
  have e2 : st.mls.set 3 [] = st.mls := by
    refine List.ext_getElem? fun j => ?_
    by_cases q : j = 3
    · subst q
      rw [List.getElem?_set_self (get_lt I.m3)]; exact I.m3.symm
    · rw [List.getElem?_set_ne (fun e => q e.symm)]
  rw [e1, e2]
theorem law_tail (I : Inv false st h n W W) (hc : cs.length ≤ 1000) (g : LH cs l) (hh : h ≤ 20) (hn : n ≤ 12) (hn0 : 0 < n) (hl : ∀ k < 2, (W.tab k).length ≤ 12) {k : Nat} :
    W3 (exB (ev P (k + 190)) (N23.body.drop 4) l st) fun f _ _ => f = .ret (.bool true) := by
  dsimp only [N23, List.drop]
  refine X_cons (S_asg (E_idx (E_var g.g60 (E_const (w_wd_real I (A_var ?_))))))
  have g1 : LH cs (upd 76 (.list realL) l) := g.upd (by decide)
  have h76 : lget 76 (upd 76 (.list realL) l) = some (.list realL) := by rw [lget_upd, if_pos rfl]
  have est : st = so st [] := by
    have := (I.z rfl).2
    unfold so
    rw [← this]
  have r0 : ∀ s : St, getI s (.list realL) (.int 0) = some (.dict 2) := fun _ => rfl
  have r1 : ∀ s : St, getI s (.list realL) (.int 1) = some (.dict 3) := fun _ => rfl
  refine X_cons (S_asg ?_)
  rw [est]
  refine E_list (L_cons (E_new ?_))
  refine L_cons (E_const (L_cons (E_const (L_cons (E_idx (E_var h76 (E_const (W1.of (r0 _) (L_cons (E_const (L_nil ?_)))))))))))
  refine s_new (i := 0) rfl (sess_init I rfl rfl ⟨rfl, ?_⟩)
  refine L_cons (E_new ?_)
  refine L_cons (E_const (L_cons (E_const (L_cons (E_idx (E_var h76 (E_const (W1.of (r0 _) (L_cons (E_const (L_nil ?_)))))))))))
  refine s_new (i := 1) rfl (sess_init I rfl rfl ⟨rfl, ?_⟩)
  refine L_cons (E_new ?_)
  refine L_cons (E_const (L_cons (E_const (L_cons (E_idx (E_var h76 (E_const (W1.of (r1 _) (L_nil ?_)))))))))
  refine s_new (i := 2) rfl (sess_init I rfl rfl ⟨rfl, ?_⟩)
  refine L_nil ⟨by decide, ?_⟩
  refine A_idx (E_var g1.g60 (E_const ?_))
  refine W1.of (v := fin st [sF 0 (hd0 (W.tab 0)), sF 1 (hd0 (W.tab 0)), sF 2 (hd0 (W.tab 1))] [] []) ?_ ?_
  · rw [← fin_of I]
    show ((st.sds[0]?).bind _) = _
    rw [I.s0]; rfl
  refine X_cons (S_for (src_val (E_tup (L_cons (E_const (L_cons (E_const (L_cons (E_const (L_nil ⟨Nat.le_of_ble_eq_true rfl, ?_⟩))))))))))
  refine .inl ⟨_, .inr rfl, by decide, ?_⟩
  have k66 : ∀ (v : V) (l : Loc), lget 66 (upd 66 v l) = some v := fun v l => by rw [lget_upd, if_pos rfl]
  refine forL_cons (A_var ?_)
  refine row_ok (i := 0) (k := k + 159) I (Nat.le_of_ble_eq_true rfl) (g1.upd (x := 66) (by decide)).g60 (k66 _ _) fun v1 => ?_
  have g2 := (g1.upd (x := 66) (v := .int 0) (by decide)).upd (x := 55) (v := v1) (by decide)
  refine forL_cons (A_var ?_)
  refine row_ok (i := 1) (k := k + 159) I (Nat.le_of_ble_eq_true rfl) (g2.upd (x := 66) (by decide)).g60 (k66 _ _) fun v2 => ?_
  have g3 := (g2.upd (x := 66) (v := .int 0) (by decide)).upd (x := 55) (v := v2) (by decide)
  refine forL_cons (A_var ?_)
  refine row_ok (i := 2) (k := k + 159) I (Nat.le_of_ble_eq_true rfl) (g3.upd (x := 66) (by decide)).g60 (k66 _ _) fun v3 => ?_
  have g4 := (g3.upd (x := 66) (v := .int 1) (by decide)).upd (x := 55) (v := v3) (by decide)
  refine forL_nil ?_
  have If := inv_fin I
  refine (show W3 (exB (ev P (k + 190)) _ _ (fin st [sF 0 (hd0 (W.tab 0)), sF 1 (hd0 (W.tab 0)), sF 2 (hd0 (W.tab 1))] [rF 0 (hd0 (W.tab 0)), rF 1 (hd0 (W.tab 0)), rF 2 (hd0 (W.tab 1))] [.sd 1, .sd 2, .sd 3])) _ from ?_)
  revert If
  generalize fin st [sF 0 (hd0 (W.tab 0)), sF 1 (hd0 (W.tab 0)), sF 2 (hd0 (W.tab 1))] [rF 0 (hd0 (W.tab 0)), rF 1 (hd0 (W.tab 0)), rF 2 (hd0 (W.tab 1))] [.sd 1, .sd 2, .sd 3] = sX
  intro If
  refine X_cons (S_ite (B_not (B_call (L_cons (E_var g4.g60 (L_nil ?_))))))
  refine stand_ok If fun s2 I2 => ⟨true, rfl, nofun, fun _ => ?_⟩
  refine X_nil ?_
  refine X_cons (S_for (src_range (L_cons (E_call ?_))))
  refine L_cons (E_var g4.g57 (L_cons (E_var g4.g58 (L_cons (E_const (L_nil ?_))))))
  refine draw_ok (B := 7) I2 (by omega) hc (by decide) fun s3 d hd I3 => ?_
  have hr : (rangeU 0 (d : Int)).length = d := by unfold rangeU; simp
  refine L_nil (W1.of (v := rangeU 0 (d : Int)) ?_ ?_)
  · show (if _ then _ else _) = _
    rw [if_pos (by omega)]
  refine turns_ok hc (rangeU 0 (d : Int)) g4 I3 (good_stood If) hn0 (by omega) (by omega) (fun k hk => ?_) fun s4 l4 => ?_
  · rw [stood_tab, hr]
    have := hl k hk
    show (W.tab k).length + _ ≤ _
    omega
  · exact X_cons (S_ret (E_const rfl))
theorem law_ok {ns : List Int} (hns : ns.length ≤ 1000) {k : Nat} : W3 (exB (ev P (k + 190)) N23.body [(77, .list (ns.map .int))] st0) fun f _ _ => f = .ret (.bool true) := by
  have hc : ((ns.take 60).map fun k => k.fmod 1000000).length ≤ 60 := by rw [List.length_map, List.length_take]; omega
  show W3 (exB (ev P (k + 190)) (_ :: _ :: _ :: _ :: N23.body.drop 4) _ st0) _
  refine X_cons (S_asg (E_tup (L_cons (E_mapK (fun k => .int (k.fmod 1000000)) (E_upto (E_var rfl ⟨_, rfl, ⟨by simpa using hns, by decide⟩, ?_⟩))))))
  refine ⟨ns.take 60, by rw [List.map_take], by rw [List.length_take]; omega, fun k hk => ?_, ?_⟩
  · refine E_bin (E_var (by rw [lget_upd, if_pos rfl]) (E_bin (E_const (E_const (W1.of (v := .int 1000000) rfl (W1.of ?_ ⟨rfl, rfl⟩))))))
    rfl
  have ecs : ((ns.take 60).map fun k => V.int (k.fmod 1000000)) = ((ns.take 60).map fun k => k.fmod 1000000).map .int := by rw [List.map_map]; rfl
  rw [ecs]
  generalize (ns.take 60).map (fun k => k.fmod 1000000) = cs at hc
  refine L_cons (E_ml (L_cons (E_const (L_nil ⟨by decide, L_nil ⟨Nat.le_of_ble_eq_true rfl, ?_⟩⟩))))
  refine A_tup2 (A_var (A_var ?_))
  refine X_cons (S_asg (W2.of (v := .sd 0) (s := st1) rfl (A_var ?_)))
  have g1 : LH cs (upd 60 (.sd 0) (upd 58 (.ml 0) (upd 57 (.list (cs.map .int)) [(77, .list (ns.map .int))]))) := ⟨rfl, rfl, rfl⟩
  have hc' : cs.length ≤ 1000 := by omega
  refine X_cons (S_for (src_range (L_cons (E_const (L_nil (W1.of (v := [.int 0, .int 1]) rfl ?_))))))
  refine forL_cons (A_var ?_)
  refine X_cons (S_for (src_range (L_cons (E_const (L_nil (W1.of (v := ([0, 1, 2, 3] : List Int).map .int) rfl ?_))))))
  refine inner_ok (cs := cs) (i := 0) hc' [0, 1, 2, 3] ⟨rfl, rfl, rfl, rfl⟩ inv0 (by decide) (by decide) (fun k _ => by show 0 + 4 ≤ 40; decide) fun s2 l2 h2 n2 X2 gb I2 a1 a2 a3 => ?_
  refine X_nil ?_
  refine forL_cons (A_var ?_)
  refine X_cons (S_for (src_range (L_cons (E_const (L_nil (W1.of (v := ([0, 1, 2, 3] : List Int).map .int) rfl ?_))))))
  have a1' : h2 ≤ 4 := by simpa using a1
  have a2' : n2 ≤ 4 := by simpa using a2
  have a3' : ∀ k < 2, (X2.tab k).length ≤ 4 := fun k hk => by
    have h := a3.le k hk
    have h0 : (W0.tab k).length = 0 := rfl
    rw [h0] at h
    simpa using h
  have gc : LG cs 2 (upd 73 (.int 1) l2) := by
    have key : ∀ j, j ≠ 73 → lget j (upd 73 (.int 1) l2) = lget j l2 := fun j hj => by rw [lget_upd, if_neg hj]
    exact ⟨(key 57 (by decide)).trans gb.g57, (key 58 (by decide)).trans gb.g58, (key 60 (by decide)).trans gb.g60, by rw [lget_upd, if_pos rfl]; rfl⟩
  refine inner_ok (cs := cs) (i := 2) hc' [0, 1, 2, 3] gc I2 (by show n2 + 4 ≤ 40; omega) (by show h2 + 4 ≤ 100; omega) (fun k hk => by have := a3' k hk; show _ + 4 ≤ 40; omega) fun s3 l3 h3 n3 X3 gd I3 b1 b2 b3 => ?_
  refine X_nil (forL_nil ?_)
  have b1' : h3 ≤ h2 + 4 := by simpa using b1
  have b2' : n3 ≤ n2 + 4 := by simpa using b2
  have b3' : ∀ k < 2, (X3.tab k).length ≤ 8 := fun k hk => by
    have h := b3.le k hk
    have := a3' k hk
    have h : (X3.tab k).length ≤ (X2.tab k).length + 4 := h
    omega
  have ge : LH cs l3 := ⟨gd.g57, gd.g58, gd.g60⟩
  refine X_cons (S_ite (B_eqml I3 gd.g60 fun s4 I4 => ⟨fun e => ?_, fun e => ?_⟩))
  · refine put_ok (i := 2) (x := 3) I4 (by omega) (fun k hk => by have := b3' k hk; omega) gd.g60 (.inr rfl) (.inr rfl) fun s5 X5 I5 hL => ?_
    refine law_tail I5 hc' (ge.upd (by decide)) (by omega) (by omega) (by omega) fun k hk => ?_
    have := hL.le k hk
    have := b3' k hk
    omega
  · have e' : ¬ n3 = 0 := of_decide_eq_false e
    refine X_nil (law_tail I4 hc' ge (by omega) (by omega) (by omega) fun k hk => ?_)
    have := b3' k hk
    omega
end
end Mux
namespace Mux
open PySem PySem.W PyProof.Rows

theorem vrs_ints {h : Heap} {T : TT} : ∀ {vs : List Value} {ns : List Int}, IntsAre vs ns → VRs h T (ns.map .int) vs
  | _, _, .nil => trivial
  | _, _, .cons n t x => ⟨⟨t, rfl⟩, vrs_ints x⟩
theorem plain_at {P : Params} {h : Heap} {a : Addr} {xs : List PyData} {vs : Array Value} (w : Well P h (.ref a) (ofPy (.list xs))) (l : h.IsList a vs) : h.PlainList a vs := by
  have w2 : Well P h (.ref a) (.list (ofPys xs)) := w
  obtain ⟨o, ho, hc, n, hd⟩ := l
  cases w2 with
  | list h1 h2 =>
    rename_i ws
    have e := ho.symm.trans h1
    have : o = { cls := .type "list", data := .seq ws.toArray } := Option.some.inj e
    subst this
    injection hd with e1 e2
    exact ⟨_, by rw [h1, e1]⟩
theorem no_cell {ks : Ks} (h : (ks.all fun p => match p.2 with | .cell => false | _ => true) = true) (x : Str) : ks.lookup x ≠ some .cell := by
  intro e
  induction ks with
  | nil => cases e
  | cons p r ih =>
    obtain ⟨y, k⟩ := p
    rw [List.all_cons, Bool.and_eq_true] at h
    rw [List.lookup_cons] at e
    split at e
    · cases e
      exact absurd h.1 nofun
    · exact ih h.2 e
theorem law_entry {g : Glb} {K : Frag} {fa : Nat → Addr} (G : GOk g K fa) (hP : g.P = P) {A : Around} {env : Env} {ks : Ks} {body : List Stmt} {s : Shared} {Q : Flow → Shared → Prop} {E : Value → Shared → Prop} {L a : Addr} {vs : List Value} {ns : List Int} {m : Str → Option Value}
    (hb : mapO (cS 40 20 ks) body = some N23.body) (hk : env.scope.kind = .function) (hn : env.scope.names = ks) (hg : env.globals = mainGlobals) (hbt : env.builtins = builtinsNs) (hcell : ∀ x, ks.lookup x ≠ some .cell)
    (hL : env.locals = L) (hns : s.heap.Ns L m) (hm : m (ofCode nm 77) = some (.ref a)) (hkeep : ∀ b o, g.h₀.get? b = some o → s.heap.get? b = some o) (hLn : g.h₀.objs.size ≤ L)
    (hlist : g.h₀.PlainList a vs.toArray) (hI : IntsAre vs ns) (hlen : ns.length ≤ 1000) (hA : Rm A 199)
    (q : ∀ h' tk, (∀ b o, g.h₀.get? b = some o → h'.get? b = some o) → Q (.ret (.bool true)) { s with heap := h', toks := tk }) : wpAny g.M A (execs body env) Q E s := by
  have hT : ∀ b r, (if b = L then some Role.priv else none) = some r → b = L ∧ r = .priv := fun b r h => by
    split at h
    · rename_i e; cases h; exact ⟨e, rfl⟩
    · cases h
  have hns2 := hns
  obtain ⟨o, es, ep, ho, _⟩ := hns2
  have hnl : g.h₀.get? L = none := by
    cases e : g.h₀.get? L with
    | none => rfl
    | some x => exact absurd (Heap.lt_size e) (Nat.not_lt.mpr hLn)
  have R : Rp g s.heap (fun b => if b = L then some .priv else none) st0 := {
    inst := fun b c n h => by cases (hT b _ h).2
    attrs := fun b c n h => by cases (hT b _ h).2
    dict := fun b n h => by cases (hT b _ h).2
    sd := fun b n h => by cases (hT b _ h).2
    ml := fun b n h => by cases (hT b _ h).2
    inj := fun b c r h1 h2 h3 => absurd (hT b r h1).2 h3
    lo2 := fun b r h => by
      obtain ⟨e, _⟩ := hT b r h
      subst e
      refine ⟨hnl, ?_⟩
      obtain ⟨c, x, h1, h2⟩ := g.hb
      exact beq_eq_false_iff_ne.mpr (Nat.ne_of_gt (Nat.lt_of_lt_of_le (Nat.lt_trans h1 (Heap.lt_size h2)) hLn))
    live := fun b r h => by
      obtain ⟨e, _⟩ := hT b r h
      subst e
      exact ⟨o, ho⟩
    keep := hkeep }
  have haL : a ≠ L := by
    rintro rfl
    obtain ⟨n, h1⟩ := hlist
    rw [hnl] at h1; cases h1
  have X : FrOk env ks s.heap (fun b => if b = L then some .priv else none) [(77, .list (ns.map .int))] := {
    kind := hk
    names := hn
    glob := hg
    blt := hbt
    priv := by rw [hL]; exact if_pos rfl
    ns := ⟨m, by rw [hL]; exact hns, fun x v h1 h2 => by
      unfold lget at h1
      split at h1
      · rename_i e
        have e : x = 77 := (beq_iff_eq.mp e).symm
        cases h1
        subst e
        refine ⟨_, hm, a, vs, rfl, if_neg haL, hlist.at fun o h => hkeep a o h, vrs_ints hI⟩
      · cases h1⟩
    cell := fun x h => absurd h (hcell x)
    apart := fun x y c h => absurd h (hcell x) }
  obtain ⟨f, l', st', h1, h2⟩ := law_ok (ns := ns) hlen (k := 9)
  subst h2
  have S := snd_all G 199
  rw [hP] at S
  refine exB_ok S hA hb X R h1 fun h' tk T' f e R' X' hf => ?_
  obtain ⟨x, rfl, hx⟩ := hf
  have hx : x = .bool true := hx
  subst hx
  exact q h' tk R'.keep
theorem post_true {R : WRecords} {xs ys : List WData} : (WTm.eq .res (.lit (.bool true))).value R { args := xs, res := some (.bool true), after := ys } = some (.bool true) := by
  rw [w_eq_bool (k := true) (l := true) (by simp [WTm.value]) (by simp [WTm.value])]; rfl
theorem rm_caller (env : Env) : Rm (callerA.deeper env) 199 := ⟨rfl, Nat.le_of_ble_eq_true rfl, Nat.le_of_ble_eq_true rfl⟩
end Mux
section
open PySem PySem.W PyProof.Rows
set_option maxRecDepth 100000 in
set_option maxHeartbeats 8000000 in
theorem PySem.Challenge.cw_pq1193_01_holds : PySem.Challenge.rw_pq1193_01.Holds := by
  exact hd (by
    k_go0
    rename_i w s₀ s₁ mg mb G Y fa o pm doc kV ho hg KX X V GL T B TE TW w9 w8 M w7 w6 hcd ns hs hlay0 hL0 hr hl2 w4 w3 a xs w0 hL ra w1 r0 hI hr2 hcond hcond2 K0 hD h₁ F N0
    refine Mux.law_entry (g := Mux.mkG _ w s₁.heap KX) (Mux.gok KX T.nolimit T.b T.builtins) rfl (ns := ns) (vs := xs) (a := a) ?hb rfl rfl rfl rfl ?hcell rfl F.ns ?hm F.keep F.above (Mux.plain_at w1 hL) hI ?hlen ?hA ?q
    case hb => kernel_rfl
    case hcell => exact Mux.no_cell (by rfl)
    case hm => rfl
    case hlen => omega
    case hA => exact Mux.rm_caller _
    case q =>
      intro h' tk hk
      exact ⟨.inl ⟨.bool true, .bool true, [], rfl, fun cls => rfl, .bool true, postW_of (r := Challenge.rw_pq1193_01.row.toRowW) (X := true) (by rfl) Mux.post_true rfl, unshared_nil⟩, hk, rfl, hg⟩)
end
