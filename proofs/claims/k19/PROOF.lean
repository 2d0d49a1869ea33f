import PyProof.Rows.All
import Wide.All
import OpenK.AllK
import Wide.FinOn
import HandS.ForMost
import HandS.IsInst
import HandS.TupAny
import HandS.TupLe
import HandS.ForExc
import HandS.Deep
import HandS.SortRule
import HandS.SortInts
import HandS.Style
import HandS.WordsDict
import HandS.Zip
import KE.DataMinMax
import HandS.Conv
import HandS.Small
import HandS.HeadWalk
import HandS.HeadNt
import HandS.HeadEnd
import HandS.Head0
import HandS.Head1
import HandS.Head2
import HandS.HeadHook4
import PySem.Challenge.RW_keypanes_k19_arrows_among_many
section
set_option Elab.async false
set_option linter.all false
set_option maxRecDepth 100000
/-! D0: data, stores, a small language with its meaning as plain functions. -/
namespace Kp
open PySem (Str PyData)
abbrev D := PyData
abbrev Key := Sum Int Str
inductive Val where
  | d (x : D)
  | loc (l : Nat)
  | exc (c : Str) (fs : List (Str × D))
inductive Ob where
  | lst (l : List D)
  | dict (kvs : List (Key × D))
  | ins (c : Str) (fs : List (Str × D))
  /-- a dict while it is walked -/
  | lck (kvs : List (Key × D))
abbrev Store := List Ob
structure Ex where
  cls : Str
  fs : List (Str × D)
inductive Out (α : Type) where
  | ok (a : α) (m : Store)
  | exc (e : Ex) (m : Store)
  | stuck
def Out.bind {α β : Type} : Out α → (α → Store → Out β) → Out β
  | .ok a m, f => f a m
  | .exc e m, _ => .exc e m
  | .stuck, _ => .stuck
@[simp] theorem bind_ok {α β : Type} (a : α) (m : Store) (f : α → Store → Out β) : (Out.ok a m).bind f = f a m := rfl
@[simp] theorem bind_exc {α β : Type} (e : Ex) (m : Store) (f : α → Store → Out β) : (Out.exc e m : Out α).bind f = .exc e m := rfl
@[simp] theorem bind_stuck {α β : Type} (f : α → Store → Out β) : (Out.stuck : Out α).bind f = .stuck := rfl
theorem bind_assoc {α β γ : Type} (x : Out α) (f : α → Store → Out β) (g : β → Store → Out γ) : (x.bind f).bind g = x.bind fun a m => (f a m).bind g := by cases x <;> rfl

def keyD : Key → D
  | .inl i => .int i
  | .inr s => .str s
def toKey : D → Option Key
  | .int i => some (.inl i)
  | .str s => some (.inr s)
  | _ => none
def dictD (kvs : List (Key × D)) : D := .dict (kvs.map fun p => (keyD p.1, p.2))
def lookK (kvs : List (Key × D)) (k : Key) : Option D := (kvs.find? fun kv => decide (kv.1 = k)).map (·.2)
def putK (kvs : List (Key × D)) (k : Key) (d : D) : List (Key × D) :=
  if (kvs.any fun kv => decide (kv.1 = k)) = true then kvs.map (fun kv => if kv.1 = k then (kv.1, d) else kv) else kvs ++ [(k, d)]
def unKeys : List (D × D) → Option (List (Key × D))
  | [] => some []
  | p :: r => match toKey p.1, unKeys r with
    | some k, some s => some ((k, p.2) :: s)
    | _, _ => none

/-- what a value is, read as data -/
def dOf (v : Val) (m : Store) : Option D := match v with
  | .d x => some x
  | .loc l => match m[l]? with
    | some (.lst l) => some (.list l)
    | some (.dict kvs) => some (dictD kvs)
    | _ => none
  | .exc _ _ => none

inductive Bop where | add | sub | mul | fdiv | mod | pow
  deriving DecidableEq
inductive Cop where | eq | ne | lt | le | gt | ge | inn | nin
  deriving DecidableEq
inductive Bi where | len | int | tuple | list | sorted | max | min | sum | abs | all | dict | lenset | repr | range
  deriving DecidableEq
inductive Mt where | append | pop | extend | index | count | join | get | values
  deriving DecidableEq
inductive Ty where | int | bool | str | tuple | list | dict
  deriving DecidableEq
inductive Tg where | one (i : Nat) | many (is : List Nat)
  deriving DecidableEq

mutual
inductive E where
  | var (i : Nat)
  | int (i : Int) | bl (b : Bool) | non | str (s : Str)
  | glb (x : Str)
  | tup (es : List E) | lst (es : List E) | dic (es : List E)
  | bop (o : Bop) (a b : E) | neg (a : E)
  | cmp (o : Cop) (a b : E) | chn (o p : Cop) (a b c : E) | isN (a : E) | notN (a : E)
  | land (a b : E) | lor (a b : E) | lnot (a : E) | ite (c a b : E)
  | call (f : Nat) (es : List E)
  | bi (f : Bi) (es : List E)
  | mth (m : Mt) (o : E) (es : List E)
  | idx (a b : E) | slc (a : E) (hl hh : Bool) (lo hi : E) | rev (a : E)
  | comp (elt : E) (tg : Tg) (it : It) (ifs : List E)
  | compI (elt : E) (tg : Tg) (o : Nat) (ifs : List E)
  | isi (a : E) (ts : List Ty)
  | lrg1 (a : E) | lrg2 (a b : E)
  | bad
inductive It where
  | seq (e : E) | rng (a : E) | rng2 (a b : E) | enm (e : E) | zip (a b : E)
end
inductive S where
  | exp (e : E) | set (i : Nat) (e : E) | setM (i : Nat) (e : E)
  | unp (is : List Nat) (e : E) | par (is : List (Nat × Bool)) (es : List E)
  | sidx (o i e : E)
  | ife (c : E) (a b : List S) | whl (c : E) (b : List S) | forr (tg : Tg) (it : It) (b : List S)
  | ret (e : E) | retN | rse (c : Str) (es : List E) | pass | bad
/-- a def: its slots, its parameters (the first slots), whether what it tells is its asker's own, its body -/
structure Fn where
  n : Nat
  np : Nat
  own : Bool := false
  body : List S

/-! ### the meaning of the operators -/
def small (i : Int) : Bool := decide (-(2 ^ 64) < i) && decide (i < 2 ^ 64)
def bopD (o : Bop) (x y : D) : Option D := match o, x, y with
  | .add, .int i, .int j => some (.int (i + j))
  | .add, .str x, .str y => if x.length + y.length ≤ PySem.sizeLine then some (.str (x ++ y)) else none
  | .add, .list xs, .list ys => if xs.length + ys.length ≤ PySem.sizeLine then some (.list (xs ++ ys)) else none
  | .add, .tuple xs, .tuple ys => if xs.length + ys.length ≤ PySem.sizeLine then some (.tuple (xs ++ ys)) else none
  | .sub, .int i, .int j => some (.int (i - j))
  | .mul, .int i, .int j => if small i || small j then some (.int (i * j)) else none
  | .fdiv, .int i, .int j => if 0 < j ∧ j < 1073741824 then some (.int (i / j)) else none
  | .mod, .int i, .int j => if 0 < j then some (.int (i % j)) else none
  | .pow, .int i, .int j => if 0 ≤ j ∧ j ≤ 1000 ∧ small i = true then some (.int (i ^ j.toNat)) else none
  | _, _, _ => none
def scalD : D → Bool
  | .none => true | .bool _ => true | .int _ => true | .str _ => true | _ => false
def cmpable (x y : D) : Bool := (scalD x && scalD y) || (PySem.SeqAt.shaped x && PySem.SeqAt.shaped y)
def intsOf : List D → Option (List Int)
  | [] => some []
  | .int i :: r => (intsOf r).map (i :: ·)
  | _ => none
/-- less, where both can be compared -/
def ltD : D → D → Option Bool
  | .int i, .int j => some (decide (i < j))
  | .str x, .str y => some (decide (x.cps.toList < y.cps.toList))
  | .tuple xs, .tuple ys => match intsOf xs, intsOf ys with
    | some is, some js => some (HT.lexLt is js)
    | _, _ => none
  | _, _ => none
def inD (x y : D) : Option Bool := match y with
  | .list ys => if (scalD x && ys.all scalD) || (PySem.SeqAt.shaped x && PySem.SeqAt.shaped (.list ys)) then some (ys.any fun z => PyData.eqv z x) else none
  | .tuple ys => if scalD x && ys.all scalD then some (ys.any fun z => PyData.eqv z x) else none
  | .str s => match x with
    | .str ⟨⟨[c]⟩⟩ => some (decide (c ∈ s.cps.toList))
    | _ => none
  | .dict kvs => match toKey x, unKeys kvs with
    | some k, some kvs => some (lookK kvs k).isSome
    | _, _ => none
  | _ => none
def cmpD (o : Cop) (x y : D) : Option Bool := match o with
  | .eq => if cmpable x y then some (PyData.eqv x y) else none
  | .ne => if cmpable x y then some (!PyData.eqv x y) else none
  | .lt => ltD x y
  | .gt => match x, y with | .int i, .int j => some (decide (j < i)) | _, _ => none
  | .le => match x, y with | .int i, .int j => some (decide (i ≤ j)) | _, _ => none
  | .ge => match x, y with | .int i, .int j => some (decide (j ≤ i)) | _, _ => none
  | .inn => inD x y
  | .nin => (inD x y).map not
def lenD : D → Option Nat
  | .list l => some l.length
  | .tuple l => some l.length
  | .str s => if s.length ≤ PySem.sizeLine then some s.length else none
  | .dict l => some l.length
  | _ => none
def idxD (x y : D) : Option D := match x, y with
  | .list l, .int i => L2.atI l i
  | .tuple l, .int i => L2.atI l i
  | .str s, .int i => if s.length ≤ PySem.sizeLine then (L2.atI s.cps.toList i).map fun c => .str ⟨#[c]⟩ else none
  | .dict kvs, k => match toKey k, unKeys kvs with
    | some k, some kvs => lookK kvs k
    | _, _ => none
  | _, _ => none
def cut {α : Type} (l : List α) (lo hi : Option Int) : List α := (l.drop (HT.sIx l.length 0 lo)).take (HT.sIx l.length l.length hi - HT.sIx l.length 0 lo)
def slcD (x : D) (lo hi : Option Int) : Option D := match x with
  | .list l => some (.list (cut l lo hi))
  | .tuple l => some (.tuple (cut l lo hi))
  | _ => none
def revD : D → Option D
  | .list l => some (.list l.reverse)
  | _ => none
def isTy : D → Ty → Bool
  | .int _, .int => true
  | .bool _, .int => true
  | .bool _, .bool => true
  | .str _, .str => true
  | .tuple _, .tuple => true
  | .list _, .list => true
  | .dict _, .dict => true
  | _, _ => false
def strsOf : List D → Option (List Str)
  | [] => some []
  | .str i :: r => (strsOf r).map (i :: ·)
  | _ => none
def boolsOf : List D → Option (List Bool)
  | [] => some []
  | .bool i :: r => (boolsOf r).map (i :: ·)
  | _ => none
def maxI (a : Int) (l : List Int) : Int := l.foldl max a
def minI (a : Int) (l : List Int) : Int := l.foldl min a
/-- the pairs of a list of pairs -/
def pairsOf : List D → Option (List (Key × D))
  | [] => some []
  | .tuple [k, v] :: r => match toKey k, pairsOf r with
    | some k, some s => some ((k, v) :: s)
    | _, _ => none
  | _ => none
/-- tuples of numbers, and the least of them, by place -/
def intssOf : List D → Option (List (List Int))
  | [] => some []
  | .tuple l :: r => match intsOf l, intssOf r with
    | some i, some s => some (i :: s)
    | _, _ => none
  | _ => none
def minT (a : List Int) (l : List (List Int)) : List Int := l.foldl (fun a y => if HT.lexLt y a then y else a) a
/-- the first item, for sorting -/
def keyI : D → Int
  | .tuple (.int i :: _) => i
  | _ => 0
def keyJ : D → Int
  | .tuple (_ :: .int i :: _) => i
  | _ => 0
def keyS : D → List Nat
  | .tuple (.str s :: _) => s.cps.toList
  | _ => []
def firstsI : List D → Option (List Int)
  | [] => some []
  | .tuple (.int i :: _) :: r => (firstsI r).map (i :: ·)
  | _ => none
def firstsS : List D → Option (List Str)
  | [] => some []
  | .tuple (.str i :: _) :: r => (firstsS r).map (i :: ·)
  | _ => none
def intPair : D → Bool
  | .tuple [.int _, .int _] => true
  | _ => false
def leStr (x y : Str) : Bool := !decide (y.cps.toList < x.cps.toList)
def leI (x y : D) : Bool := decide (keyI x ≤ keyI y)
def leIJ (x y : D) : Bool := decide (keyI x < keyI y ∨ keyI x = keyI y ∧ keyJ x ≤ keyJ y)
def leS (x y : D) : Bool := !decide (keyS y < keyS x)
/-- what can be sorted here: numbers; texts; pairs of numbers; tuples whose first items are unlike numbers, or unlike texts -/
def sortD (l : List D) : Option (List D) := match intsOf l with
  | some is => some ((is.mergeSort (fun a b => decide (a ≤ b))).map .int)
  | none => match strsOf l with
    | some ss => if l.length < 64 then some ((ss.mergeSort leStr).map .str) else none
    | none => if l.all intPair then some (l.mergeSort leIJ) else match firstsI l with
      | some is => if is.Nodup then some (l.mergeSort leI) else none
      | none => match firstsS l with
        | some ss => if ss.Nodup then some (l.mergeSort leS) else none
        | none => none
def biD (f : Bi) (ds : List D) : Option D := match f, ds with
  | .len, [x] => (lenD x).map fun (n : Nat) => PyData.int (Int.ofNat n)
  | .int, [.bool b] => some (.int (if b then 1 else 0))
  | .int, [.int i] => some (.int i)
  | .tuple, [.list l] => some (.tuple l)
  | .tuple, [.tuple l] => some (.tuple l)
  | .list, [.list l] => some (.list l)
  | .list, [.tuple l] => some (.list l)
  | .sorted, [.list l] => (sortD l).map .list
  | .max, [.list (.int i :: r)] => (intsOf r).map fun r => .int (maxI i r)
  | .max, [.int i, .int j] => some (.int (max i j))
  | .min, [.list (.int i :: r)] => (intsOf r).map fun r => .int (minI i r)
  | .min, [.int i, .int j] => some (.int (min i j))
  | .min, [.list (.tuple l :: r)] => match intsOf l, intssOf r with
    | some i, some is => some (.tuple ((minT i is).map .int))
    | _, _ => none
  | .sum, [.list l] => (intsOf l).map fun l => .int l.sum
  | .abs, [.int i] => some (.int (if i < 0 then -i else i))
  | .all, [.list l] => (boolsOf l).map fun l => .bool (l.all id)
  | .dict, [.list l] => (pairsOf l).map fun ps => dictD (ps.foldl (fun kvs p => putK kvs p.1 p.2) [])
  | _, _ => none
def mthV (f : Mt) (o : Val) (ds : List D) (m : Store) : Out Val := match f with
  | .append => match o, ds with
    | .loc a, [x] => match m[a]? with
      | some (.lst l) => if l.length < PySem.sizeLine then .ok (.d .none) (m.set a (.lst (l ++ [x]))) else .stuck
      | _ => .stuck
    | _, _ => .stuck
  | .pop => match o, ds with
    | .loc a, [] => match m[a]? with
      | some (.lst l) => match l.getLast? with
        | some x => .ok (.d x) (m.set a (.lst l.dropLast))
        | none => .stuck
      | _ => .stuck
    | .loc a, [.int i] => match m[a]? with
      | some (.lst l) => if 0 ≤ i ∧ i < 2 ^ 62 then match l[i.toNat]? with
          | some x => .ok (.d x) (m.set a (.lst (l.eraseIdx i.toNat)))
          | none => .stuck
        else .stuck
      | _ => .stuck
    | _, _ => .stuck
  | .extend => match o, ds with
    | .loc a, [.list k] => match m[a]? with
      | some (.lst l) => if l.length + k.length ≤ PySem.sizeLine then .ok (.d .none) (m.set a (.lst (l ++ k))) else .stuck
      | _ => .stuck
    | _, _ => .stuck
  | .index => match dOf o m, ds with
    | some (.list l), [x] => if scalD x && l.all scalD then match l.findIdx? (fun z => PyData.eqv z x) with
        | some i => .ok (.d (.int i)) m
        | none => .stuck
      else .stuck
    | _, _ => .stuck
  | .join => match dOf o m, ds with
    | some (.str sep), [.list l] => match strsOf l with
      | some ss => if (ss.map (·.length)).sum + ss.length * sep.length ≤ 16777216 then .ok (.d (.str (PySem.Txt.join sep ss))) m else .stuck
      | none => .stuck
    | _, _ => .stuck
  | _ => .stuck

/-- whose method it is -/
def recvOk (f : Mt) (o : Val) (m : Store) : Bool := match f, dOf o m with
  | .join, some (.str _) => true
  | .join, _ => false
  | .get, some (.dict _) => true
  | .get, _ => false
  | .values, some (.dict _) => true
  | .values, _ => false
  | _, some (.list _) => true
  | _, _ => false
/-! ### the meaning of the terms -/
abbrev Env := List (Option Val)
abbrev Calls := Nat → List Val → Store → Out Val
abbrev Globs := Str → Option D
def ofD (o : Option D) (m : Store) : Out Val := match o with
  | some x => .ok (.d x) m
  | none => .stuck
def ofB (o : Option Bool) (m : Store) : Out Val := match o with
  | some b => .ok (.d (.bool b)) m
  | none => .stuck
def asB (v : Val) (m : Store) : Out Bool := match v with
  | .d (.bool b) => .ok b m
  | _ => .stuck
def isNon : Val → Bool
  | .d .none => true
  | _ => false
def dsOf : List Val → Store → Option (List D)
  | [], _ => some []
  | v :: r, m => match dOf v m, dsOf r m with
    | some x, some s => some (x :: s)
    | _, _ => none
/-- a display's values, key and value in turn -/
def pairsUp : List Val → Option (List (Key × D))
  | [] => some []
  | .d k :: .d v :: r => match toKey k, pairsUp r with
    | some k, some s => some ((k, v) :: s)
    | _, _ => none
  | _ => none
/-- data alone -/
def pureD : List Val → Option (List D)
  | [] => some []
  | .d x :: r => (pureD r).map (x :: ·)
  | _ => none
def setTg (tg : Tg) (x : D) (env : Env) : Option Env := match tg with
  | .one i => some (env.set i (some (.d x)))
  | .many is => match x with
    | .tuple l => if l.length = is.length then some ((is.zip l).foldl (fun e p => e.set p.1 (some (.d p.2))) env) else none
    | _ => none
/-- the turns of a list comprehension: the new list is the store's last, at n -/
def compF (n : Nat) (f : D → Store → Out (Option D)) : List D → Store → Out (List D)
  | [], m => match m[n]? with
    | some (.lst acc) => .ok acc (m.take n)
    | _ => .stuck
  | x :: r, m => match f x m with
    | .ok none m1 => compF n f r m1
    | .ok (some y) m1 => match m1[n]? with
      | some (.lst acc) => if acc.length < PySem.sizeLine then compF n f r (m1.set n (.lst (acc ++ [y]))) else .stuck
      | _ => .stuck
    | _ => .stuck
/-- slots forgotten -/
def wipeE (env : Env) : List Nat → Env
  | [] => env
  | v :: vs => (wipeE env vs).set v none
def tgSlots : Tg → List Nat
  | .one i => [i]
  | .many is => is
def seqItems : D → Option (List D)
  | .list l => some l
  | .tuple l => some l
  | .str s => some (s.cps.toList.map fun c => .str ⟨#[c]⟩)
  | _ => none
def intRange (i j : Int) : List D := (List.range (j - i).toNat).map fun (k : Nat) => .int (i + (k : Int))
def inRange (i : Int) : Bool := decide (-(2 ^ 62) ≤ i) && decide (i < 2 ^ 62)
def enumD : Nat → List D → List D
  | _, [] => []
  | n, x :: r => .tuple [.int n, x] :: enumD (n + 1) r
def zipD : List D → List D → List D
  | x :: r, y :: s => .tuple [x, y] :: zipD r s
  | _, _ => []

section
variable (Φ : Calls) (G : Globs)
mutual
def evE : E → Env → Store → Out Val
  | .var i, env, m => match env[i]? with
    | some (some v) => .ok v m
    | _ => .stuck
  | .int i, _, m => .ok (.d (.int i)) m
  | .bl b, _, m => .ok (.d (.bool b)) m
  | .non, _, m => .ok (.d .none) m
  | .str s, _, m => .ok (.d (.str s)) m
  | .glb x, _, m => ofD (G x) m
  | .tup es, env, m => (evEs es env m).bind fun vs m => ofD ((pureD vs).map .tuple) m
  | .lst es, env, m => (evEs es env m).bind fun vs m => ofD ((pureD vs).map .list) m
  | .dic es, env, m => (evEs es env (m ++ [.dict []])).bind fun vs m1 => match m1[m.length]?, pairsUp vs with
    | some (.dict []), some kvs => .ok (.d (dictD (kvs.foldl (fun a p => putK a p.1 p.2) []))) (m1.take m.length)
    | _, _ => .stuck
  | .bop o a b, env, m => (evE a env m).bind fun x m => (evE b env m).bind fun y m => match dOf x m, dOf y m with
    | some x, some y => ofD (bopD o x y) m
    | _, _ => .stuck
  | .neg a, env, m => (evE a env m).bind fun x m => match x with
    | .d (.int i) => .ok (.d (.int (-i))) m
    | _ => .stuck
  | .cmp o a b, env, m => (evE a env m).bind fun x m => (evE b env m).bind fun y m => match dOf x m, dOf y m with
    | some x, some y => ofB (cmpD o x y) m
    | _, _ => .stuck
  | .chn o p a b c, env, m => (evE a env m).bind fun x m => (evE b env m).bind fun y m => match x, y with
    | .d (.int i), .d (.int j) => match cmpD o (.int i) (.int j) with
      | some true => (evE c env m).bind fun z m => match z with
        | .d (.int k) => ofB (cmpD p (.int j) (.int k)) m
        | _ => .stuck
      | some false => .ok (.d (.bool false)) m
      | none => .stuck
    | _, _ => .stuck
  | .isN a, env, m => (evE a env m).bind fun x m => .ok (.d (.bool (isNon x))) m
  | .notN a, env, m => (evE a env m).bind fun x m => .ok (.d (.bool (!isNon x))) m
  | .land a b, env, m => (evE a env m).bind fun x m => (asB x m).bind fun x m => if x then evE b env m else .ok (.d (.bool false)) m
  | .lor a b, env, m => (evE a env m).bind fun x m => (asB x m).bind fun x m => if x then .ok (.d (.bool true)) m else evE b env m
  | .lnot a, env, m => (evE a env m).bind fun x m => (asB x m).bind fun x m => .ok (.d (.bool (!x))) m
  | .ite c a b, env, m => (evE c env m).bind fun x m => (asB x m).bind fun x m => if x then evE a env m else evE b env m
  | .call f es, env, m => (evEs es env m).bind fun vs m => Φ f vs m
  | .bi f es, env, m => (evEs es env m).bind fun vs m => match dsOf vs m with
    | some ds => ofD (biD f ds) m
    | none => .stuck
  | .mth f o es, env, m => (evE o env m).bind fun o m => if recvOk f o m then (evEs es env m).bind fun vs m => match (if f = .append then pureD vs else dsOf vs m) with
      | some ds => mthV f o ds m
      | none => .stuck
    else .stuck
  | .idx a b, env, m => (evE a env m).bind fun x m => (evE b env m).bind fun y m => match dOf x m, dOf y m with
    | some x, some y => ofD (idxD x y) m
    | _, _ => .stuck
  | .slc a hl hh lo hi, env, m => (evE a env m).bind fun x m =>
      (if hl then (evE lo env m).bind fun l m => match l with | .d (.int i) => .ok (some i) m | _ => .stuck else .ok none m).bind fun l m =>
      (if hh then (evE hi env m).bind fun l m => match l with | .d (.int i) => .ok (some i) m | _ => .stuck else .ok none m).bind fun h m => match dOf x m with
        | some x => ofD (slcD x l h) m
        | none => .stuck
  | .rev a, env, m => (evE a env m).bind fun x m => match dOf x m with
    | some x => ofD (revD x) m
    | none => .stuck
  | .comp elt tg it ifs, env, m => (evIt it env m).bind fun xs m =>
      (compF m.length (fun x m => match setTg tg x (wipeE env (tgSlots tg)) with
        | some env => (evIfs ifs env m).bind fun b m => if b then (evE elt env m).bind fun v m => match v with
            | .d y => .ok (some y) m
            | _ => .stuck
          else .ok none m
        | none => .stuck) xs (m ++ [.lst []])).bind fun ys m => .ok (.d (.list ys)) m
  | .compI elt tg o ifs, env, m => match env[o]? with
    | some (some (.loc a)) => match m[a]? with
      | some (.dict kvs) => if kvs.length ≤ PySem.sizeLine then (compF m.length (fun x m => match setTg tg x (wipeE env (tgSlots tg)) with
        | some env => (evIfs ifs env m).bind fun b m => if b then (evE elt env m).bind fun v m => match v with
            | .d y => .ok (some y) m
            | _ => .stuck
          else .ok none m
        | none => .stuck) (kvs.map fun p => .tuple [keyD p.1, p.2]) (m.set a (.lck kvs) ++ [.lst []])).bind fun ys m => match m[a]? with
          | some (.lck kvs) => .ok (.d (.list ys)) (m.set a (.dict kvs))
          | _ => .stuck
        else .stuck
      | _ => .stuck
    | _ => .stuck
  | .isi a ts, env, m => (evE a env m).bind fun x m => match dOf x m with
    | some x => .ok (.d (.bool (ts.any (isTy x)))) m
    | none => .stuck
  | .lrg1 a, env, m => (evE a env m).bind fun v m => match v with
    | .d (.int j) => if inRange j && decide (j ≤ PySem.sizeLine) then .ok (.d (.list (intRange 0 j))) m else .stuck
    | _ => .stuck
  | .lrg2 a b, env, m => (evE a env m).bind fun x m => (evE b env m).bind fun y m => match x, y with
    | .d (.int i), .d (.int j) => if inRange i && inRange j && decide (j - i ≤ PySem.sizeLine) then .ok (.d (.list (intRange i j))) m else .stuck
    | _, _ => .stuck
  | .bad, _, _ => .stuck
def evEs : List E → Env → Store → Out (List Val)
  | [], _, m => .ok [] m
  | e :: r, env, m => (evE e env m).bind fun v m => (evEs r env m).bind fun vs m => .ok (v :: vs) m
def evIfs : List E → Env → Store → Out Bool
  | [], _, m => .ok true m
  | e :: r, env, m => (evE e env m).bind fun v m => (asB v m).bind fun b m => if b then evIfs r env m else .ok false m
def evIt : It → Env → Store → Out (List D)
  | .seq e, env, m => (evE e env m).bind fun v m => match v with
    | .d x => match seqItems x with
      | some l => .ok l m
      | none => .stuck
    | _ => .stuck
  | .rng a, env, m => (evE a env m).bind fun v m => match v with
    | .d (.int j) => if inRange j && decide (j ≤ PySem.sizeLine) then .ok (intRange 0 j) m else .stuck
    | _ => .stuck
  | .rng2 a b, env, m => (evE a env m).bind fun x m => (evE b env m).bind fun y m => match x, y with
    | .d (.int i), .d (.int j) => if inRange i && inRange j && decide (j - i ≤ PySem.sizeLine) then .ok (intRange i j) m else .stuck
    | _, _ => .stuck
  | .enm e, env, m => (evE e env m).bind fun v m => match v with
    | .d (.list l) => .ok (enumD 0 l) m
    | _ => .stuck
  | .zip a b, env, m => (evE a env m).bind fun x m => (evE b env m).bind fun y m => match x, y with
    | .d (.list l), .d (.list k) => .ok (zipD l k) m
    | .d (.tuple l), .d (.tuple k) => .ok (zipD l k) m
    | _, _ => .stuck
end

inductive Flow where
  | next (env : Env)
  | ret (v : Val)
/-- what is new becomes the frame's own, to be changed -/
def thaw (v : Val) (m : Store) : Out Val := match v with
  | .d (.list l) => .ok (.loc m.length) (m ++ [.lst l])
  | .d (.dict kvs) => match unKeys kvs with
    | some kvs => .ok (.loc m.length) (m ++ [.dict kvs])
    | none => .stuck
  | _ => .stuck
def whileF (c : Env → Store → Out Bool) (b : Env → Store → Out Flow) : Nat → Env → Store → Out Flow
  | 0, _, _ => .stuck
  | n + 1, env, m => (c env m).bind fun t m => if t then (b env m).bind fun f m => match f with
      | .next env => whileF c b n env m
      | .ret v => .ok (.ret v) m
    else .ok (.next env) m
def forF (b : D → Env → Store → Out Flow) : List D → Env → Store → Out Flow
  | [], env, m => .ok (.next env) m
  | x :: r, env, m => (b x env m).bind fun f m => match f with
    | .next env => forF b r env m
    | .ret v => .ok (.ret v) m
def evPar : List (Nat × Bool) → List E → Env → Store → Out (List Val)
  | [], [], _, m => .ok [] m
  | p :: ps, e :: es, env, m => (evE Φ G e env m).bind fun v m => (if p.2 then thaw v m else .ok v m).bind fun v m => (evPar ps es env m).bind fun vs m => .ok (v :: vs) m
  | _, _, _, _ => .stuck
def setIdx (o i : Val) (x : D) (m : Store) : Out Unit := match o, i with
  | .loc a, .d k => match m[a]?, k with
    | some (.lst l), .int j => if 0 ≤ j then (if j.toNat < l.length then .ok () (m.set a (.lst (l.set j.toNat x))) else .stuck)
        else if -(l.length : Int) ≤ j then .ok () (m.set a (.lst (l.set (j + l.length).toNat x))) else .stuck
    | some (.dict kvs), k => match toKey k with
      | some k => if kvs.length < PySem.sizeLine then .ok () (m.set a (.dict (putK kvs k x))) else .stuck
      | none => .stuck
    | _, _ => .stuck
  | _, _ => .stuck
def whileN : Nat := 100000
mutual
def evS : S → Env → Store → Out Flow
  | .exp e, env, m => (evE Φ G e env m).bind fun _ m => .ok (.next env) m
  | .set i e, env, m => (evE Φ G e env m).bind fun v m => .ok (.next (env.set i (some v))) m
  | .setM i e, env, m => (evE Φ G e env m).bind fun v m => (thaw v m).bind fun v m => .ok (.next (env.set i (some v))) m
  | .unp is e, env, m => (evE Φ G e env m).bind fun v m => match v with
    | .d x => match setTg (.many is) x env with
      | some env => .ok (.next env) m
      | none => .stuck
    | _ => .stuck
  | .par is es, env, m => (evPar Φ G is es env m).bind fun vs m => .ok (.next ((is.zip vs).foldl (fun e p => e.set p.1.1 (some p.2)) env)) m
  | .sidx o i e, env, m => (evE Φ G e env m).bind fun v m => (evE Φ G o env m).bind fun o m => (evE Φ G i env m).bind fun i m => match v with
    | .d x => (setIdx o i x m).bind fun _ m => .ok (.next env) m
    | _ => .stuck
  | .ife c a b, env, m => (evE Φ G c env m).bind fun v m => (asB v m).bind fun t m => if t then evSs a env m else evSs b env m
  | .whl c b, env, m => whileF (fun env m => (evE Φ G c env m).bind asB) (fun env m => evSs b env m) whileN env m
  | .forr tg it b, env, m => (evIt Φ G it env m).bind fun xs m => forF (fun x env m => match setTg tg x env with
      | some env => evSs b env m
      | none => .stuck) xs env m
  | .ret e, env, m => (evE Φ G e env m).bind fun v m => .ok (.ret v) m
  | .retN, _, m => .ok (.ret (.d .none)) m
  | .rse c es, env, m => (evEs Φ G es env m).bind fun vs m => match pureD vs with
    | some ds => match ds with
      | [.str _] => .exc ⟨c, []⟩ m
      | _ => .stuck
    | none => .stuck
  | .pass, env, m => .ok (.next env) m
  | .bad, _, _ => .stuck
def evSs : List S → Env → Store → Out Flow
  | [], env, m => .ok (.next env) m
  | s :: r, env, m => (evS s env m).bind fun f m => match f with
    | .next env => evSs r env m
    | .ret v => .ok (.ret v) m
end
end

/-- what a def tells, as its asker sees it: its own objects are data from now on -/
def exitV (n : Nat) (v : Val) (m : Store) : Out Val := match v with
  | .d x => .ok (.d x) (m.take n)
  | .loc a => if a < n then .ok (.loc a) (m.take n) else match m[a]? with
    | some (.lst l) => .ok (.d (.list l)) (m.take n)
    | some (.dict kvs) => .ok (.d (dictD kvs)) (m.take n)
    | _ => .stuck
  | .exc _ _ => .stuck
def exitF (n : Nat) : Out Flow → Out Val
  | .ok (.next _) m => .ok (.d .none) (m.take n)
  | .ok (.ret v) m => exitV n v m
  | .exc e m => .exc e (m.take n)
  | .stuck => .stuck
def startE (f : Fn) (vs : List Val) : Env := vs.map some ++ List.replicate (f.n - vs.length) none
def callN (B : Nat → Option Fn) (G : Globs) : Nat → Calls
  | 0 => fun _ _ _ => .stuck
  | n + 1 => fun f vs m => match B f with
    | some fn => if vs.length = fn.np then exitF m.length (evSs (callN B G n) G fn.body (startE fn vs) m) else .stuck
    | none => .stuck
end Kp
end

section
set_option Elab.async false
set_option linter.all false
set_option maxRecDepth 100000
set_option maxHeartbeats 4000077
/-! D1: how data lie in the abstract heap. -/
namespace Kp
open PySem
open PySem.Spec
open PyProof.Rows
open L2

mutual
/-- the value v is the data d, all of it in I or in what is written -/
inductive Rp (K : PySem.W.Frag) (I : Hp) : V → D → Prop
  | non : Rp K I .non .none
  | bl (b : Bool) : Rp K I (.bl b) (.bool b)
  | int (i : Int) : Rp K I (.int i) (.int i)
  | str (x : Str) : Rp K I (.str x) (.str x)
  | lst {a : Addr} {xs : List V} {ds : List D} : Rd I a (.lst xs) → xs.length ≤ sizeLine → RpAll K I xs ds → Rp K I (.ref a) (.list ds)
  | tup {a : Addr} {xs : List V} {ds : List D} : SqT K I a xs → xs.length ≤ sizeLine → RpAll K I xs ds → Rp K I (.ref a) (.tuple ds)
  | dct {a : Addr} {ks : List (L2.Key × V)} {ds : List (D × D)} : I a = some (.dK ks) → RpKv K I ks ds → Rp K I (.ref a) (.dict ds)
inductive RpAll (K : PySem.W.Frag) (I : Hp) : List V → List D → Prop
  | nil : RpAll K I [] []
  | cons {v : V} {vs : List V} {d : D} {ds : List D} : Rp K I v d → RpAll K I vs ds → RpAll K I (v :: vs) (d :: ds)
inductive RpKv (K : PySem.W.Frag) (I : Hp) : List (L2.Key × V) → List (D × D) → Prop
  | nil : RpKv K I [] []
  | cons {k : L2.Key} {v : V} {vs : List (L2.Key × V)} {d : D} {ds : List (D × D)} : Rp K I v d → RpKv K I vs ds → RpKv K I ((k, v) :: vs) ((keyD k, d) :: ds)
end
section
variable {K : PySem.W.Frag} {I I' : Hp}
theorem seqT_mono {a : Addr} {xs : List V} (e : Same I I') (h : SqT K I a xs) : SqT K I' a xs := by
  rcases h with (h | ⟨o, h⟩) | h
  · exact .inl (.inl (e _ _ h))
  · exact .inl (.inr ⟨o, e _ _ h⟩)
  · exact .inr h
theorem rd_mono {a : Addr} {u : HO} (e : Same I I') (h : Rd I a u) : Rd I' a u := by
  rcases h with h | ⟨o, h⟩
  · exact .inl (e _ _ h)
  · exact .inr ⟨o, e _ _ h⟩
mutual
theorem Rp.mono (s : Same I I') : ∀ (d : D) (v : V), Rp K I v d → Rp K I' v d
  | .none, _, h => by cases h; exact .non
  | .bool b, _, h => by cases h; exact .bl b
  | .int i, _, h => by cases h; exact .int i
  | .str x, _, h => by cases h; exact .str x
  | .list ds, _, h => by
    cases h with
    | lst h1 h2 h3 => exact .lst (rd_mono s h1) h2 (RpAll.mono s ds _ h3)
  | .tuple ds, _, h => by
    cases h with
    | tup h1 h2 h3 => exact .tup (seqT_mono s h1) h2 (RpAll.mono s ds _ h3)
  | .dict ds, _, h => by
    cases h with
    | dct h1 h2 => exact .dct (s _ _ h1) (RpKv.mono s ds _ h2)
theorem RpAll.mono (s : Same I I') : ∀ (ds : List D) (vs : List V), RpAll K I vs ds → RpAll K I' vs ds
  | [], _, h => by cases h; exact .nil
  | d :: ds, _, h => by
    cases h with
    | cons h1 h2 => exact .cons (Rp.mono s d _ h1) (RpAll.mono s ds _ h2)
theorem RpKv.mono (s : Same I I') : ∀ (ds : List (D × D)) (vs : List (L2.Key × V)), RpKv K I vs ds → RpKv K I' vs ds
  | [], _, h => by cases h; exact .nil
  | (_, d) :: ds, _, h => by
    cases h with
    | cons h1 h2 => exact .cons (Rp.mono s d _ h1) (RpKv.mono s ds _ h2)
end
theorem RpAll.length : ∀ {vs : List V} {ds : List D}, RpAll K I vs ds → vs.length = ds.length
  | [], [], _ => rfl
  | _ :: _, _ :: _, .cons _ h => congrArg (· + 1) h.length
theorem RpKv.length : ∀ {vs : List (L2.Key × V)} {ds : List (D × D)}, RpKv K I vs ds → vs.length = ds.length
  | [], [], _ => rfl
  | _ :: _, _ :: _, .cons _ h => congrArg (· + 1) h.length
theorem RpAll.append : ∀ {vs ws : List V} {ds es : List D}, RpAll K I vs ds → RpAll K I ws es → RpAll K I (vs ++ ws) (ds ++ es)
  | [], _, [], _, _, h => h
  | _ :: _, _, _ :: _, _, .cons h1 h2, h => .cons h1 (h2.append h)
theorem RpAll.get : ∀ {vs : List V} {ds : List D} {i : Nat} {d : D}, RpAll K I vs ds → ds[i]? = some d → ∃ v, vs[i]? = some v ∧ Rp K I v d
  | [], [], i, d, _, h => by simp at h
  | v :: vs, e :: ds, 0, d, .cons h1 h2, h => by simp at h; subst h; exact ⟨v, rfl, h1⟩
  | v :: vs, e :: ds, i + 1, d, .cons h1 h2, h => by
    obtain ⟨w, a, b⟩ := RpAll.get (i := i) (d := d) h2 (by simpa using h)
    exact ⟨w, by simpa using a, b⟩
theorem RpAll.getV : ∀ {vs : List V} {ds : List D} {i : Nat} {v : V}, RpAll K I vs ds → vs[i]? = some v → ∃ d, ds[i]? = some d ∧ Rp K I v d
  | [], [], i, d, _, h => by simp at h
  | v :: vs, e :: ds, 0, d, .cons h1 h2, h => by simp at h; subst h; exact ⟨e, rfl, h1⟩
  | v :: vs, e :: ds, i + 1, d, .cons h1 h2, h => by
    obtain ⟨w, a, b⟩ := RpAll.getV (i := i) (v := d) h2 (by simpa using h)
    exact ⟨w, by simpa using a, b⟩
theorem RpAll.take : ∀ {vs : List V} {ds : List D} (n : Nat), RpAll K I vs ds → RpAll K I (vs.take n) (ds.take n)
  | _, _, 0, _ => .nil
  | _, _, _ + 1, .nil => .nil
  | _, _, n + 1, .cons r t => .cons r (RpAll.take n t)
theorem RpAll.drop : ∀ {vs : List V} {ds : List D} (n : Nat), RpAll K I vs ds → RpAll K I (vs.drop n) (ds.drop n)
  | _, _, 0, r => r
  | _, _, _ + 1, .nil => .nil
  | _, _, n + 1, .cons _ t => RpAll.drop n t
theorem RpAll.reverse {vs : List V} {ds : List D} (h : RpAll K I vs ds) : RpAll K I vs.reverse ds.reverse := by
  induction vs generalizing ds with
  | nil => cases h; exact .nil
  | cons v vs ih =>
    cases h with
    | cons h1 h2 => rw [List.reverse_cons, List.reverse_cons]; exact (ih h2).append (.cons h1 .nil)
theorem RpAll.set {v : V} {d : D} (r : Rp K I v d) : ∀ {vs : List V} {ds : List D} (i : Nat), RpAll K I vs ds → RpAll K I (vs.set i v) (ds.set i d)
  | _, _, _, .nil => .nil
  | _, _, 0, .cons _ t => .cons r t
  | _, _, i + 1, .cons q t => .cons q (RpAll.set r i t)
theorem RpAll.dropLast : ∀ {vs : List V} {ds : List D}, RpAll K I vs ds → RpAll K I vs.dropLast ds.dropLast := fun {vs ds} h => by
  rw [List.dropLast_eq_take, List.dropLast_eq_take, h.length]
  exact h.take _
theorem RpAll.eraseIdx : ∀ {vs : List V} {ds : List D} (i : Nat), RpAll K I vs ds → RpAll K I (vs.eraseIdx i) (ds.eraseIdx i)
  | _, _, _, .nil => .nil
  | _, _, 0, .cons _ t => t
  | _, _, i + 1, .cons q t => .cons q (RpAll.eraseIdx i t)
end

/-! ### the world -/
/-- I: what is data and never changes; α: where the store's objects stand -/
structure Wo where
  I : Hp
  α : List Addr
structure Wo.le (w w' : Wo) : Prop where
  same : Same w.I w'.I
  pre : w.α <+: w'.α
theorem Wo.le.refl (w : Wo) : w.le w := ⟨Same.refl _, List.prefix_refl _⟩
theorem Wo.le.trans {a b c : Wo} (h : a.le b) (h' : b.le c) : a.le c := ⟨h.same.trans h'.same, h.pre.trans h'.pre⟩
def RV (K : PySem.W.Frag) (w : Wo) (v : V) : Val → Prop
  | .d x => Rp K w.I v x
  | .loc l => ∃ a, w.α[l]? = some a ∧ v = .ref a
  | .exc _ _ => False
theorem pre_get {α : Type} {l k : List α} (h : l <+: k) {i : Nat} {x : α} (e : l[i]? = some x) : k[i]? = some x := by
  obtain ⟨t, rfl⟩ := h
  rw [List.getElem?_append_left (List.getElem?_eq_some_iff.mp e).1]
  exact e
theorem RV.mono {K : PySem.W.Frag} {w w' : Wo} {v : V} {x : Val} (l : w.le w') (h : RV K w v x) : RV K w' v x := by
  cases x with
  | d x => exact Rp.mono l.same x v h
  | loc i => obtain ⟨a, e, r⟩ := h; exact ⟨a, pre_get l.pre e, r⟩
  | exc _ _ => exact h
inductive RVs (K : PySem.W.Frag) (w : Wo) : List V → List Val → Prop
  | nil : RVs K w [] []
  | cons {v : V} {vs : List V} {d : Val} {ds : List Val} : RV K w v d → RVs K w vs ds → RVs K w (v :: vs) (d :: ds)
theorem RVs.mono {K : PySem.W.Frag} {w w' : Wo} (l : w.le w') : ∀ {vs : List V} {xs : List Val}, RVs K w vs xs → RVs K w' vs xs
  | _, _, .nil => .nil
  | _, _, .cons h t => .cons (h.mono l) (t.mono l)
theorem RVs.length {K : PySem.W.Frag} {w : Wo} : ∀ {vs : List V} {xs : List Val}, RVs K w vs xs → vs.length = xs.length
  | _, _, .nil => rfl
  | _, _, .cons _ t => congrArg (· + 1) t.length

def mutO : HO → Prop
  | .lst _ => True
  | .dK _ => True
  | .ins _ _ _ => True
  | .frz _ (.dK _) => True
  | _ => False
/-- what is asked of the whole: the written part; Z: what else the heap bears -/
structure Wd where
  K : PySem.W.Frag
  Z : Hp → Prop
  znew : ∀ H p o, Z H → H p = none → mutO o ∨ (∃ xs, o = .tup xs) → Z (upd H p o)
  zwr : ∀ H p o o', Z H → H p = some o → mutO o → mutO o' → Z (upd H p o')
def ObR (K : PySem.W.Frag) (I H : Hp) (a : Addr) : Ob → Prop
  | .lst l => ∃ xs, H a = some (.lst xs) ∧ xs.length ≤ sizeLine ∧ RpAll K I xs l
  | .dict kvs => ∃ ks, H a = some (.dK ks) ∧ RpKv K I ks (kvs.map fun p => (keyD p.1, p.2))
  | .ins _ _ => False
  | .lck kvs => ∃ ks o, H a = some (.frz o (.dK ks)) ∧ RpKv K I ks (kvs.map fun p => (keyD p.1, p.2))
theorem ObR.mono {K : PySem.W.Frag} {I I' H : Hp} {a : Addr} {o : Ob} (s : Same I I') (h : ObR K I H a o) : ObR K I' H a o := by
  cases o with
  | lst l => obtain ⟨xs, e, z, r⟩ := h; exact ⟨xs, e, z, r.mono s⟩
  | dict l => obtain ⟨xs, e, r⟩ := h; exact ⟨xs, e, r.mono s⟩
  | ins _ _ => exact h
  | lck l => obtain ⟨xs, o, e, r⟩ := h; exact ⟨xs, o, e, r.mono s⟩
theorem ObR.heap {K : PySem.W.Frag} {I H H' : Hp} {a : Addr} {o : Ob} (e : H' a = H a) (h : ObR K I H a o) : ObR K I H' a o := by
  cases o with
  | lst l => obtain ⟨xs, q, z, r⟩ := h; exact ⟨xs, e.trans q, z, r⟩
  | dict l => obtain ⟨xs, q, r⟩ := h; exact ⟨xs, e.trans q, r⟩
  | ins _ _ => exact h
  | lck l => obtain ⟨xs, o, q, r⟩ := h; exact ⟨xs, o, e.trans q, r⟩
theorem ObR.some {K : PySem.W.Frag} {I H : Hp} {a : Addr} {o : Ob} (h : ObR K I H a o) : ∃ u, H a = some u ∧ mutO u := by
  cases o with
  | lst l => obtain ⟨xs, q, z, r⟩ := h; exact ⟨_, q, trivial⟩
  | dict l => obtain ⟨xs, q, r⟩ := h; exact ⟨_, q, trivial⟩
  | ins _ _ => exact h.elim
  | lck l => obtain ⟨xs, o, q, r⟩ := h; exact ⟨_, q, trivial⟩
/-- the heap H is the world w with the store m -/
structure Rl (Y : Wd) (w : Wo) (m : Store) (H : Hp) : Prop where
  same : Same w.I H
  len : w.α.length = m.length
  nd : w.α.Nodup
  obj : ∀ (l : Nat) a o, w.α[l]? = some a → m[l]? = some o → w.I a = none ∧ ObR Y.K w.I H a o
  z : Y.Z H
section
variable {Y : Wd} {w w' : Wo} {m : Store} {H : Hp}
theorem Rl.at (r : Rl Y w m H) {l : Nat} {o : Ob} (h : m[l]? = some o) : ∃ a, w.α[l]? = some a ∧ w.I a = none ∧ ObR Y.K w.I H a o := by
  have hl : l < m.length := (List.getElem?_eq_some_iff.mp h).1
  have hl' : l < w.α.length := by rw [r.len]; exact hl
  exact ⟨w.α[l], List.getElem?_eq_getElem hl', r.obj l _ o (List.getElem?_eq_getElem hl') h⟩
theorem Rl.free (r : Rl Y w m H) {p : Addr} (h : H p = none) : w.I p = none ∧ p ∉ w.α := by
  refine ⟨r.same.free h, fun hm => ?_⟩
  obtain ⟨l, hl, e⟩ := List.getElem_of_mem hm
  have hl' : l < m.length := by rw [← r.len]; exact hl
  obtain ⟨_, q⟩ := r.obj l p m[l] (by rw [List.getElem?_eq_getElem hl, e]) (List.getElem?_eq_getElem hl')
  obtain ⟨u, e, _⟩ := q.some
  rw [h] at e; cases e
theorem nodup_get {α : Type} {l : List α} (h : l.Nodup) {i j : Nat} {x : α} (a : l[i]? = some x) (b : l[j]? = some x) : i = j := by
  obtain ⟨h1, e1⟩ := List.getElem?_eq_some_iff.mp a
  obtain ⟨h2, e2⟩ := List.getElem?_eq_some_iff.mp b
  exact (List.getElem_inj h).mp (e1.trans e2.symm)
/-- a new object, no one's yet -/
theorem Rl.new (r : Rl Y w m H) {p : Addr} {o : HO} (h : H p = none) (ho : mutO o ∨ ∃ xs, o = .tup xs) : Rl Y w m (upd H p o) := by
  obtain ⟨f1, f2⟩ := r.free h
  refine ⟨fun b u e => ?_, r.len, r.nd, fun l a ob e1 e2 => ?_, Y.znew H p o r.z h ho⟩
  · rw [upd_ne (ne_of_none (r.same b u e) h)]; exact r.same b u e
  · obtain ⟨g1, g2⟩ := r.obj l a ob e1 e2
    refine ⟨g1, g2.heap (upd_ne ?_)⟩
    rintro rfl
    exact f2 (List.mem_of_getElem? e1)
/-- what is no one's becomes data -/
theorem Rl.freeze (r : Rl Y w m H) {p : Addr} {o : HO} (hI : w.I p = none) (hα : p ∉ w.α) (h : H p = some o) : Rl Y ⟨upd w.I p o, w.α⟩ m H ∧ w.le ⟨upd w.I p o, w.α⟩ := by
  have s : Same w.I (upd w.I p o) := fun b u e => by rw [upd_ne (ne_of_none e hI)]; exact e
  refine ⟨⟨fun b u e => ?_, r.len, r.nd, fun l a ob e1 e2 => ?_, r.z⟩, s, List.prefix_refl _⟩
  · by_cases hb : b = p
    · subst hb
      have e : upd w.I b o b = some u := e
      rw [upd_same] at e; cases e; exact h
    · have e : upd w.I p o b = some u := e
      rw [upd_ne hb] at e; exact r.same b u e
  · obtain ⟨g1, g2⟩ := r.obj l a ob e1 e2
    refine ⟨?_, g2.mono s⟩
    show upd w.I p o a = none
    rw [upd_ne]
    · exact g1
    · rintro rfl
      exact hα (List.mem_of_getElem? e1)
/-- a new object that is data at once -/
theorem Rl.data (r : Rl Y w m H) {p : Addr} {o : HO} (h : H p = none) (ho : mutO o ∨ ∃ xs, o = .tup xs) : Rl Y ⟨upd w.I p o, w.α⟩ m (upd H p o) ∧ w.le ⟨upd w.I p o, w.α⟩ :=
  (r.new h ho).freeze (r.free h).1 (r.free h).2 upd_same
/-- what is no one's becomes the store's -/
theorem Rl.push (r : Rl Y w m H) {p : Addr} {o : Ob} (hI : w.I p = none) (hα : p ∉ w.α) (h : ObR Y.K w.I H p o) : Rl Y ⟨w.I, w.α ++ [p]⟩ (m ++ [o]) H ∧ w.le ⟨w.I, w.α ++ [p]⟩ := by
  refine ⟨⟨r.same, by simp [r.len], ?_, fun l a ob e1 e2 => ?_, r.z⟩, Same.refl _, List.prefix_append _ _⟩
  · show (w.α ++ [p]).Nodup
    rw [List.nodup_append]
    refine ⟨r.nd, by simp, fun a ha b hb e => ?_⟩
    have : b = p := by simpa using hb
    subst this
    exact hα (e ▸ ha)
  · have e1 : (w.α ++ [p])[l]? = some a := e1
    by_cases hl : l < w.α.length
    · rw [List.getElem?_append_left hl] at e1
      rw [List.getElem?_append_left (by rw [← r.len]; exact hl)] at e2
      exact r.obj l a ob e1 e2
    · have hl' : l < w.α.length + 1 := by
        have := (List.getElem?_eq_some_iff.mp e1).1
        simpa using this
      have : l = w.α.length := by omega
      subst this
      rw [List.getElem?_append_right (Nat.le_refl _)] at e1
      rw [List.getElem?_append_right (by rw [r.len]; exact Nat.le_refl _)] at e2
      simp at e1
      simp [r.len] at e2
      subst e1; subst e2
      exact ⟨hI, h⟩
/-- an object of the store is changed -/
theorem Rl.write (r : Rl Y w m H) {l : Nat} {a : Addr} {o' : Ob} {u u' : HO} (ha : w.α[l]? = some a) (hu : H a = some u) (mu : mutO u) (mu' : mutO u') (h : ObR Y.K w.I (upd H a u') a o') (hl : l < m.length) :
    Rl Y w (m.set l o') (upd H a u') := by
  have hI : w.I a = none := (r.obj l a m[l] ha (List.getElem?_eq_getElem hl)).1
  refine ⟨fun b x e => ?_, by simp [r.len], r.nd, fun k b ob e1 e2 => ?_, Y.zwr H a u u' r.z hu mu mu'⟩
  · rw [upd_ne]
    · exact r.same b x e
    · rintro rfl
      rw [hI] at e; cases e
  · by_cases hk : k = l
    · subst hk
      rw [ha] at e1; cases e1
      rw [List.getElem?_set_self hl] at e2; cases e2
      exact ⟨hI, h⟩
    · rw [List.getElem?_set_ne (Ne.symm hk)] at e2
      obtain ⟨g1, g2⟩ := r.obj k b ob e1 e2
      refine ⟨g1, g2.heap (upd_ne ?_)⟩
      rintro rfl
      exact hk (nodup_get r.nd e1 ha)
/-- the frame's own objects are left -/
theorem Rl.cutTo (r : Rl Y w m H) {n : Nat} {β : List Addr} (hp : β <+: w.α) (hn : β.length = n) : Rl Y ⟨w.I, β⟩ (m.take n) H := by
  subst hn
  have hle := hp.length_le
  refine ⟨r.same, ?_, ?_, fun l a o e1 e2 => ?_, r.z⟩
  · show β.length = _
    rw [List.length_take, ← r.len]; omega
  · exact List.Nodup.sublist hp.sublist r.nd
  · have e1 : β[l]? = some a := e1
    have hl := (List.getElem?_eq_some_iff.mp e1).1
    rw [List.getElem?_take_of_lt hl] at e2
    exact r.obj l a o (pre_get hp e1) e2
end
/-- slots -/
def EnvR (K : PySem.W.Frag) (w : Wo) (env : Env) (σ : L2.St) : Prop := env.length = σ.length ∧ ∀ (i : Nat) v, env[i]? = some (some v) → ∃ x, σ[i]? = some (some x) ∧ RV K w x v
theorem EnvR.mono {K : PySem.W.Frag} {w w' : Wo} {env : Env} {σ : L2.St} (l : w.le w') (h : EnvR K w env σ) : EnvR K w' env σ :=
  ⟨h.1, fun i v e => let ⟨x, a, b⟩ := h.2 i v e; ⟨x, a, b.mono l⟩⟩
theorem EnvR.set {K : PySem.W.Frag} {w : Wo} {env : Env} {σ : L2.St} {i : Nat} {v : Val} {x : V} (h : EnvR K w env σ) (r : RV K w x v) : EnvR K w (env.set i (some v)) (σ.set i (some x)) := by
  refine ⟨by simp [h.1], fun j u e => ?_⟩
  by_cases hj : i = j
  · subst hj
    have hl : i < env.length := by
      have := (List.getElem?_eq_some_iff.mp e).1
      simpa using this
    rw [List.getElem?_set_self hl] at e; cases e
    exact ⟨x, by rw [List.getElem?_set_self (by rw [← h.1]; exact hl)], r⟩
  · rw [List.getElem?_set_ne hj] at e ⊢
    exact h.2 j u e
/-- new and no one's, where it is a list or a dict -/
def OwnV (K : PySem.W.Frag) (w : Wo) (H : Hp) (x : V) : Val → Prop
  | .d (.list l) => ∃ a xs, x = .ref a ∧ w.I a = none ∧ a ∉ w.α ∧ H a = some (.lst xs) ∧ xs.length ≤ sizeLine ∧ RpAll K w.I xs l
  | .d (.dict l) => ∃ a ks, x = .ref a ∧ w.I a = none ∧ a ∉ w.α ∧ H a = some (.dK ks) ∧ RpKv K w.I ks l
  | v => RV K w x v
/-- .. becomes data -/
theorem OwnV.data {Y : Wd} {w : Wo} {m : Store} {H : Hp} {x : V} {v : Val} (r : Rl Y w m H) (h : OwnV Y.K w H x v) : ∃ w', w.le w' ∧ w'.α = w.α ∧ Rl Y w' m H ∧ RV Y.K w' x v := by
  have same : RV Y.K w x v → ∃ w', w.le w' ∧ w'.α = w.α ∧ Rl Y w' m H ∧ RV Y.K w' x v := fun q => ⟨w, Wo.le.refl w, rfl, r, q⟩
  cases v with
  | d y =>
    cases y with
    | list l =>
      obtain ⟨a, xs, rfl, hI, hα, hH, hz, hr⟩ := h
      obtain ⟨r', le⟩ := r.freeze hI hα hH
      exact ⟨_, le, rfl, r', .lst (Rd.of upd_same) hz (hr.mono le.same)⟩
    | dict l =>
      obtain ⟨a, xs, rfl, hI, hα, hH, hr⟩ := h
      obtain ⟨r', le⟩ := r.freeze hI hα hH
      exact ⟨_, le, rfl, r', .dct upd_same (hr.mono le.same)⟩
    | none => exact same h
    | bool _ => exact same h
    | int _ => exact same h
    | str _ => exact same h
    | tuple _ => exact same h
  | loc _ => exact same h
  | exc _ _ => exact same h
end Kp
end

section
set_option Elab.async false
set_option linter.all false
set_option maxRecDepth 100000
set_option maxHeartbeats 4000077
/-! D2: judgements: what a term of the text does is what its plain meaning says. -/
namespace Kp
open PySem
open PySem.Spec
open PyProof.Rows
open L2

/-- an exception that is told -/
def ExR (mg : Str → Option Value) (e : Ex) (cls : Value) (d : Option Addr) (H : Hp) : Prop :=
  ∃ C, mg e.cls = some (.ref C) ∧ cls = .ref C ∧ (e.fs = [] → d = none)
structure Cfg where
  Y : Wd
  mg : Str → Option Value
  Φ : Calls
  G : Globs
  w0 : Wo
  Rx : Ex → Store → Prop
def wish (c : Cfg) : WX := fun cls d _ H => ∃ w e m, c.w0.le w ∧ Rl c.Y w m H ∧ ExR c.mg e cls d H ∧ c.Rx e m
/-- what is wanted of an answer -/
def PostG (c : Cfg) (w : Wo) {α β : Type} (R : Wo → Hp → β → α → Prop) (r : Out α) (Q : β → Hp → Prop) : Prop :=
  match r with
  | .ok v m => ∀ w' H' x, w.le w' → Rl c.Y w' m H' → R w' H' x v → Q x H'
  | .exc e m => c.Rx e m
  | .stuck => False
abbrev rV (c : Cfg) : Wo → Hp → V → Val → Prop := fun w _ x v => RV c.Y.K w x v
abbrev rO (c : Cfg) : Wo → Hp → V → Val → Prop := fun w H x v => OwnV c.Y.K w H x v
abbrev rVs (c : Cfg) : Wo → Hp → List V → List Val → Prop := fun w _ x v => RVs c.Y.K w x v
abbrev rB : Wo → Hp → Bool → Bool → Prop := fun _ _ x v => x = v
section
variable {c : Cfg} {w w' : Wo} {α β γ δ : Type} {R : Wo → Hp → β → α → Prop} {S : Wo → Hp → δ → γ → Prop} {r : Out α} {Q : δ → Hp → Prop} {Qa : β → Hp → Prop} {f : α → Store → Out γ}
theorem PostG.mono {s : Out γ} (l : w.le w') (h : PostG c w S s Q) : PostG c w' S s Q := by
  cases s with
  | ok v m => exact fun w2 H2 x l2 r2 v2 => h w2 H2 x (l.trans l2) r2 v2
  | exc e m => exact h
  | stuck => exact h
theorem post_bind (h : PostG c w S (r.bind f) Q) (k : ∀ v m w' H' x, r = .ok v m → w.le w' → Rl c.Y w' m H' → R w' H' x v → PostG c w' S (f v m) Q → Qa x H') : PostG c w R r Qa := by
  cases r with
  | ok v m => exact fun w2 H2 x l2 r2 v2 => k v m w2 H2 x rfl l2 r2 v2 (PostG.mono l2 h)
  | exc e m => exact h
  | stuck => exact h
theorem PostG.here {v : γ} {m : Store} {H : Hp} {x : δ} (h : PostG c w S (.ok v m) Q) (r : Rl c.Y w m H) (q : S w H x v) : Q x H := h w H x (Wo.le.refl w) r q
end

/-! ### judgements -/
def JE (c : Cfg) (X : Cx) (e' : Expr) (e : E) : Prop := ∃ t : TE, PE X e' t ∧ ∀ w m H (σ : L2.St) env Q, c.w0.le w → Rl c.Y w m H → EnvR c.Y.K w env σ → PostG c w (rV c) (evE c.Φ c.G e env m) Q → t σ H Q
/-- .. what it makes is new -/
def JF (c : Cfg) (X : Cx) (e' : Expr) (e : E) : Prop := ∃ t : TE, PE X e' t ∧ ∀ w m H (σ : L2.St) env Q, c.w0.le w → Rl c.Y w m H → EnvR c.Y.K w env σ → PostG c w (rO c) (evE c.Φ c.G e env m) Q → t σ H Q
def evB (c : Cfg) (e : E) (env : Env) (m : Store) : Out Bool := (evE c.Φ c.G e env m).bind asB
def JT (c : Cfg) (X : Cx) (e' : Expr) (e : E) : Prop := ∃ t : TT, PT X e' t ∧ ∀ w m H (σ : L2.St) env Q, c.w0.le w → Rl c.Y w m H → EnvR c.Y.K w env σ → PostG c w rB (evB c e env m) Q → t σ H Q
def JW (c : Cfg) (X : Cx) (e' : Expr) (e : E) : Prop := ∃ t : TT, PW X e' t ∧ ∀ w m H (σ : L2.St) env Q, c.w0.le w → Rl c.Y w m H → EnvR c.Y.K w env σ → PostG c w rB (evB c e env m) Q → t σ H Q
def JA (c : Cfg) (X : Cx) (es' : List Expr) (es : List E) : Prop := ∃ t : TA, PA X es' t ∧ ∀ w m H (σ : L2.St) env Q, c.w0.le w → Rl c.Y w m H → EnvR c.Y.K w env σ → PostG c w (rVs c) (evEs c.Φ c.G es env m) Q → t σ H Q
section
variable {c : Cfg} {X : Cx} {e' a' b' d' : Expr} {e a b d : E}
theorem JF.je (h : JF c X e' e) : JE c X e' e := by
  obtain ⟨t, p, k⟩ := h
  refine ⟨t, p, fun w m H σ env Q hw hr he hp => k w m H σ env Q hw hr he ?_⟩
  cases hv : evE c.Φ c.G e env m with
  | ok v m1 =>
    rw [hv] at hp
    intro w1 H1 x l1 r1 o1
    obtain ⟨w2, l2, _, r2, v2⟩ := o1.data r1
    exact hp w2 H1 x (l1.trans l2) r2 v2
  | exc ex m1 => rw [hv] at hp; exact hp
  | stuck => rw [hv] at hp; exact hp
theorem JW.jt (h : JW c X e' e) : JT c X e' e := let ⟨t, p, k⟩ := h; ⟨t, p.pt, k⟩
theorem RV.bool {K : PySem.W.Frag} {w : Wo} {x : V} {b : Bool} (h : RV K w x (.d (.bool b))) : x = .bl b := by cases h; rfl
theorem RV.int {K : PySem.W.Frag} {w : Wo} {x : V} {b : Int} (h : RV K w x (.d (.int b))) : x = .int b := by cases h; rfl
theorem RV.non {K : PySem.W.Frag} {w : Wo} {x : V} (h : RV K w x (.d .none)) : x = .non := by cases h; rfl
theorem RV.str {K : PySem.W.Frag} {w : Wo} {x : V} {b : Str} (h : RV K w x (.d (.str b))) : x = .str b := by cases h; rfl
theorem asB_ok {v : Val} {m m' : Store} {b : Bool} (h : asB v m = .ok b m') : v = .d (.bool b) ∧ m' = m := by
  unfold asB at h
  split at h
  · cases h; exact ⟨rfl, rfl⟩
  · cases h
/-- an expression that tells a truth, as a test -/
theorem JE.jt (h : JE c X e' e) (he : ∀ whole, isTrue e' X.env whole = (do let v ← whole; standAt e'.pos; holding [v] (truthy v))) : JT c X e' e := by
  obtain ⟨t, p, k⟩ := h
  refine ⟨_, pt_val p he, fun w m H σ env Q hw hr hv hp => k w m H σ env _ hw hr hv (post_bind hp fun v m1 w1 H1 x _ l1 r1 v1 q => ?_)⟩
  cases hb : asB v m1 with
  | ok y m2 =>
    rw [hb] at q
    obtain ⟨rfl, rfl⟩ := asB_ok hb
    exact ⟨y, v1.bool, q.here r1 rfl⟩
  | exc _ _ =>
    unfold asB at hb
    split at hb <;> cases hb
  | stuck => rw [hb] at q; exact q.elim
/-- a comparison: a value, and a test -/
def JEt (c : Cfg) (X : Cx) (e' : Expr) (e : E) : Prop := ∃ t : TE, PE X e' t ∧ PT X e' (tB t) ∧ ∀ w m H (σ : L2.St) env Q, c.w0.le w → Rl c.Y w m H → EnvR c.Y.K w env σ → PostG c w (rV c) (evE c.Φ c.G e env m) Q → t σ H Q
theorem JEt.je (h : JEt c X e' e) : JE c X e' e := let ⟨t, p, _, k⟩ := h; ⟨t, p, k⟩
theorem JEt.jt (h : JEt c X e' e) : JT c X e' e := by
  obtain ⟨t, p, pt, k⟩ := h
  refine ⟨_, pt, fun w m H σ env Q hw hr hv hp => k w m H σ env _ hw hr hv (post_bind hp fun v m1 w1 H1 x _ l1 r1 v1 q => ?_)⟩
  cases hb : asB v m1 with
  | ok y m2 =>
    rw [hb] at q
    obtain ⟨rfl, rfl⟩ := asB_ok hb
    exact ⟨y, v1.bool, q.here r1 rfl⟩
  | exc _ _ =>
    unfold asB at hb
    split at hb <;> cases hb
  | stuck => rw [hb] at q; exact q.elim
/-! names, constants -/
theorem je_var {i : Nat} {x : Str} {pos : Pos} (hN : X.N[i]? = some x) (hv : Vis X.env.scope x) (hd : (x == ("__debug__" : Str)) = false) (hcd : (x == ("__classdict__" : Str)) = false) : JE c X (.Name x pos) (.var i) := by
  refine ⟨_, pe_var hN hv hd hcd, fun w m H σ env Q hw hr he hp => ?_⟩
  simp only [evE] at hp
  split at hp
  · rename_i v q
    obtain ⟨y, e1, r1⟩ := he.2 i v q
    exact ⟨y, e1, hp.here hr r1⟩
  · exact hp.elim
theorem je_int {i : Int} {j : Nat} {pos : Pos} : JE c X (.Constant (.int i) j pos) (.int i) := ⟨_, pe_int, fun w m H σ env Q hw hr he hp => by
  simp only [evE] at hp
  exact hp.here hr (Rp.int i)⟩
theorem je_bl {i : Bool} {j : Nat} {pos : Pos} : JE c X (.Constant (.bool i) j pos) (.bl i) := ⟨_, pe_bl, fun w m H σ env Q hw hr he hp => by
  simp only [evE] at hp
  exact hp.here hr (Rp.bl i)⟩
theorem je_non {j : Nat} {pos : Pos} : JE c X (.Constant .none j pos) .non := ⟨_, pe_non, fun w m H σ env Q hw hr he hp => by
  simp only [evE] at hp
  exact hp.here hr (Rp.non)⟩
theorem je_str {i : Str} {j : Nat} {pos : Pos} : JE c X (.Constant (.str i) j pos) (.str i) := ⟨_, pe_str, fun w m H σ env Q hw hr he hp => by
  simp only [evE] at hp
  exact hp.here hr (Rp.str i)⟩
/-- a module's constants: data that stand in the written part -/
def GlobOk (c : Cfg) (X : Cx) : Prop := ∀ x d, c.G x = some d → ∃ u v, X.mg x = some u ∧ RelV v u ∧ Rp c.Y.K (fun _ => none) v d
theorem je_glob {x : Str} {pos : Pos} (hg : Gl X x) (hG : GlobOk c X) (hx : (c.G x).isSome = true) (hd : (x == ("__debug__" : Str)) = false) : JE c X (.Name x pos) (.glb x) := by
  obtain ⟨d, hx'⟩ := Option.isSome_iff_exists.mp hx
  have hx := hx'
  obtain ⟨u, v, h1, h2, h3⟩ := hG x d hx
  refine ⟨_, pe_glob hg h1 h2 hd, fun w m H σ env Q hw hr he hp => ?_⟩
  simp only [evE, hx, ofD] at hp
  exact hp.here hr (Rp.mono (I' := w.I) (fun _ _ e => by cases e) d v h3)
/-! argument lists -/
theorem ja_nil : JA c X [] [] := ⟨_, pa_nil, fun w m H σ env Q hw hr he hp => PostG.here (S := rVs c) (by simpa only [evEs] using hp) hr .nil⟩
theorem ja_cons {es' : List Expr} {es : List E} (h : JE c X e' e) (hs : JA c X es' es) (hst : starEach (e' :: es') X.env = (false, eval e' X.env) :: starEach es' X.env) : JA c X (e' :: es') (e :: es) := by
  obtain ⟨t, p, k⟩ := h
  obtain ⟨u, q, l⟩ := hs
  refine ⟨_, pa_cons p q hst, fun w m H σ env Q hw hr he hp => ?_⟩
  simp only [evEs] at hp
  refine k w m H σ env _ hw hr he (post_bind hp fun v m1 w1 H1 x _ l1 r1 v1 hp1 => ?_)
  refine l w1 m1 H1 σ env _ (hw.trans l1) r1 (he.mono l1) (post_bind hp1 fun vs m2 w2 H2 xs _ l2 r2 v2 hp2 => ?_)
  exact hp2.here r2 (.cons (v1.mono l2) v2)
theorem evEs_length {Φ : Calls} {G : Globs} {env : Env} : ∀ {es : List E} {m m' : Store} {vs : List Val}, evEs Φ G es env m = .ok vs m' → vs.length = es.length
  | [], m, m', vs, h => by simp only [evEs] at h; cases h; rfl
  | e :: r, m, m', vs, h => by
    simp only [evEs] at h
    cases h1 : evE Φ G e env m with
    | ok v m1 =>
      rw [h1] at h
      simp only [bind_ok] at h
      cases h2 : evEs Φ G r env m1 with
      | ok ws m2 =>
        rw [h2] at h
        simp only [bind_ok] at h
        cases h
        exact congrArg (· + 1) (evEs_length h2)
      | exc _ _ => rw [h2] at h; cases h
      | stuck => rw [h2] at h; cases h
    | exc _ _ => rw [h1] at h; cases h
    | stuck => rw [h1] at h; cases h
theorem pureD_all {K : PySem.W.Frag} {w : Wo} : ∀ {vs : List Val} {xs : List V} {ds : List D}, pureD vs = some ds → RVs K w xs vs → RpAll K w.I xs ds
  | [], _, _, h, .nil => by simp only [pureD] at h; cases h; exact .nil
  | .d x :: r, _, _, h, .cons h1 h2 => by
    simp only [pureD, Option.map_eq_some_iff] at h
    obtain ⟨s, e, rfl⟩ := h
    exact .cons h1 (pureD_all e h2)
  | .loc _ :: _, _, _, h, _ => by simp only [pureD] at h; cases h
  | .exc _ _ :: _, _, _, h, _ => by simp only [pureD] at h; cases h
theorem je_tup {es' : List Expr} {es : List E} {k : Nat} {pos : Pos} (h : JA c X es' es) (hz : es.length ≤ sizeLine) : JE c X (.Tuple es' k pos) (.tup es) := by
  obtain ⟨t, p, l⟩ := h
  refine ⟨_, pe_tup p, fun w m H σ env Q hw hr he hp => ?_⟩
  simp only [evE] at hp
  refine l w m H σ env _ hw hr he (post_bind hp fun vs m1 w1 H1 xs hv l1 r1 v1 hp1 => ?_)
  have hlen : xs.length ≤ sizeLine := by rw [v1.length, evEs_length hv]; exact hz
  refine ⟨hlen, fun q hq => ?_⟩
  cases hd : pureD vs with
  | none => rw [hd] at hp1; exact hp1.elim
  | some ds =>
    rw [hd] at hp1
    simp only [Option.map_some, ofD] at hp1
    obtain ⟨r2, l2⟩ := r1.data hq (o := .tup xs) (.inr ⟨_, rfl⟩)
    exact hp1 _ _ _ l2 r2 (.tup (SqT.of upd_same) hlen ((pureD_all hd v1).mono l2.same))
theorem jf_lst {es' : List Expr} {es : List E} {pos : Pos} (h : JA c X es' es) (hz : es.length ≤ sizeLine) : JF c X (.List es' pos) (.lst es) := by
  obtain ⟨t, p, l⟩ := h
  refine ⟨_, pe_lst p, fun w m H σ env Q hw hr he hp => ?_⟩
  simp only [evE] at hp
  refine l w m H σ env _ hw hr he (post_bind hp fun vs m1 w1 H1 xs hv l1 r1 v1 hp1 => ?_)
  have hlen : xs.length ≤ sizeLine := by rw [v1.length, evEs_length hv]; exact hz
  refine ⟨hlen, fun q hq => ?_⟩
  cases hd : pureD vs with
  | none => rw [hd] at hp1; exact hp1.elim
  | some ds =>
    rw [hd] at hp1
    simp only [Option.map_some, ofD] at hp1
    have f := r1.free hq
    exact hp1 _ _ _ (Wo.le.refl w1) (r1.new hq (.inl trivial)) ⟨q, xs, rfl, f.1, f.2, upd_same, hlen, pureD_all hd v1⟩
/-! operators -/
/-- a value read as data: what is within lies in I -/
def RpT (K : PySem.W.Frag) (w : Wo) (H : Hp) (x : V) : D → Prop
  | .list l => ∃ p xs, x = .ref p ∧ Rd H p (.lst xs) ∧ xs.length ≤ sizeLine ∧ RpAll K w.I xs l
  | .dict l => ∃ p ks, x = .ref p ∧ H p = some (.dK ks) ∧ RpKv K w.I ks l
  | d => Rp K w.I x d
theorem Rp.top {K : PySem.W.Frag} {w : Wo} {H : Hp} {x : V} {d : D} (h : Rp K w.I x d) (s : Same w.I H) : RpT K w H x d := by
  cases h with
  | non => exact .non
  | bl b => exact .bl b
  | int b => exact .int b
  | str b => exact .str b
  | lst h1 h2 h3 => exact ⟨_, _, rfl, rd_mono s h1, h2, h3⟩
  | tup h1 h2 h3 => exact .tup h1 h2 h3
  | dct h1 h2 => exact ⟨_, _, rfl, s _ _ h1, h2⟩
theorem RpT.rp {K : PySem.W.Frag} {w : Wo} {H : Hp} {x : V} {d : D} (h : RpT K w H x d) (s : Same w.I H) : Rp K H x d := by
  cases d with
  | none => exact Rp.mono s _ _ h
  | bool b => exact Rp.mono s _ _ h
  | int b => exact Rp.mono s _ _ h
  | str b => exact Rp.mono s _ _ h
  | list l => obtain ⟨p, xs, rfl, h1, h2, h3⟩ := h; exact .lst h1 h2 (h3.mono s)
  | tuple l => exact Rp.mono s _ _ h
  | dict l => obtain ⟨p, xs, rfl, h1, h2⟩ := h; exact .dct h1 (h2.mono s)
theorem RV.top {Y : Wd} {w : Wo} {m : Store} {H : Hp} {x : V} {v : Val} {d : D} (r : Rl Y w m H) (h : RV Y.K w x v) (hd : dOf v m = some d) : RpT Y.K w H x d := by
  cases v with
  | d y => simp only [dOf] at hd; cases hd; exact Rp.top h r.same
  | loc l =>
    obtain ⟨a, ha, rfl⟩ := h
    simp only [dOf] at hd
    split at hd
    · rename_i l' hm
      cases hd
      obtain ⟨_, xs, h1, h2, h3⟩ := r.obj l a _ ha hm
      exact ⟨a, xs, rfl, Rd.of h1, h2, h3⟩
    · rename_i l' hm
      cases hd
      obtain ⟨_, xs, h1, h2⟩ := r.obj l a _ ha hm
      exact ⟨a, xs, rfl, h1, h2⟩
    · cases hd
  | exc _ _ => exact h.elim
theorem RpT.int {K : PySem.W.Frag} {w : Wo} {H : Hp} {x : V} {i : Int} (h : RpT K w H x (.int i)) : x = .int i := by cases h; rfl
theorem RpT.bool {K : PySem.W.Frag} {w : Wo} {H : Hp} {x : V} {i : Bool} (h : RpT K w H x (.bool i)) : x = .bl i := by cases h; rfl
theorem RpT.str {K : PySem.W.Frag} {w : Wo} {H : Hp} {x : V} {i : Str} (h : RpT K w H x (.str i)) : x = .str i := by cases h; rfl
theorem RpT.non {K : PySem.W.Frag} {w : Wo} {H : Hp} {x : V} (h : RpT K w H x .none) : x = .non := by cases h; rfl
/-- xs + ys, any two lists -/
def rCatL : R2 := fun x y H Q => ∃ l b xs zs, x = .ref l ∧ y = .ref b ∧ Rd H l (.lst xs) ∧ Rd H b (.lst zs) ∧ xs.length + zs.length ≤ sizeLine ∧ ∀ p, H p = none → Q (.ref p) (upd H p (.lst (xs ++ zs)))
theorem op_catL : OpR X (binaryOp .Add) rCatL := by
  intro pins s σ H x y v u Q I rx ry h
  obtain ⟨l, b, xs, zs, rfl, rfl, hH, hB, hz, q⟩ := h
  cases rx
  cases ry
  obtain ⟨z, its, n, r, e⟩ := hH.ok I.hok
  obtain ⟨z2, its2, n2, r2, e2⟩ := hB.ok I.hok
  have hl := r.length
  have hl2 := r2.length
  refine PySem.P.add_list e e2 ?_ (by rw [List.size_toArray, List.size_toArray]; omega)
  have ea : its.toArray ++ its2.toArray = (its ++ its2).toArray := by simp
  rw [ea]
  exact ⟨.ref _, _, I.lnew (t' := s.toks) (r.append r2) (by rw [List.length_append]; omega), rfl, q _ I.fresh⟩

/-- what an operator's answer is wanted for -/
def WantD (c : Cfg) (w : Wo) (m : Store) (d : D) (Q : VK) : Prop := ∀ w' H' x, w.le w' → Rl c.Y w' m H' → OwnV c.Y.K w' H' x (.d d) → Q x H'
theorem WantD.lst {w : Wo} {m : Store} {H : Hp} {xs : List V} {l : List D} {Q : VK} (h : WantD c w m (.list l) Q) (r : Rl c.Y w m H) (hz : xs.length ≤ sizeLine) (ha : RpAll c.Y.K w.I xs l) : ∀ p, H p = none → Q (.ref p) (upd H p (.lst xs)) := fun p hp =>
  have f := r.free hp
  h _ _ _ (Wo.le.refl w) (r.new hp (.inl trivial)) ⟨p, xs, rfl, f.1, f.2, upd_same, hz, ha⟩
theorem WantD.tup {w : Wo} {m : Store} {H : Hp} {xs : List V} {l : List D} {Q : VK} (h : WantD c w m (.tuple l) Q) (r : Rl c.Y w m H) (hz : xs.length ≤ sizeLine) (ha : RpAll c.Y.K w.I xs l) : ∀ p, H p = none → Q (.ref p) (upd H p (.tup xs)) := fun p hp => by
  obtain ⟨r2, l2⟩ := r.data hp (o := .tup xs) (.inr ⟨_, rfl⟩)
  exact h _ _ _ l2 r2 (show Rp _ _ _ _ from Rp.tup (SqT.of upd_same) hz (ha.mono l2.same))
/-- a value that stands already -/
theorem WantD.old {w : Wo} {m : Store} {H : Hp} {x : V} {d : D} {Q : VK} (h : WantD c w m d Q) (r : Rl c.Y w m H) (hv : OwnV c.Y.K w H x (.d d)) : Q x H := h _ _ _ (Wo.le.refl w) r hv
/-- .. a tuple or a scalar -/
theorem WantD.flat {w : Wo} {m : Store} {H : Hp} {x : V} {d : D} {Q : VK} (h : WantD c w m d Q) (r : Rl c.Y w m H) (hv : Rp c.Y.K w.I x d) (hd : (match d with | .list _ => False | .dict _ => False | _ => True)) : Q x H := by
  refine h.old r ?_
  cases d <;> first | exact hd.elim | exact hv
/-- an operator of the text -/
def opOf : Bop → Operator
  | .add => .Add | .sub => .Sub | .mul => .Mult | .fdiv => .FloorDiv | .mod => .Mod | .pow => .Pow
theorem small_ok {i : Int} (h : small i = true) : -(2 ^ 64) < i ∧ i < 2 ^ 64 := by
  unfold small at h
  simpa using h
theorem bop_ok (o : Bop) : ∃ r, OpR X (binaryOp (opOf o)) r ∧ ∀ w m H x y dx dy d Q, X.K = c.Y.K → Rl c.Y w m H → Rp c.Y.K H x dx → Rp c.Y.K H y dy → RpT c.Y.K w H x dx → RpT c.Y.K w H y dy → bopD o dx dy = some d → WantD c w m d Q → r x y H Q := by
  cases o with
  | add =>
    refine ⟨_, op_add.or (op_add_str.or (op_catL.or op_catA)), fun w m H x y dx dy d Q hK r _ _ hx hy hd hq => ?_⟩
    cases dx <;> cases dy <;> simp only [bopD, reduceCtorEq] at hd
    · cases hd
      exact .inl ⟨_, _, hx.int, hy.int, hq.flat r (.int _) trivial⟩
    · split at hd <;> cases hd
      rename_i hz
      exact .inr (.inl ⟨_, _, hx.str, hy.str, hz, hq.flat r (.str _) trivial⟩)
    · split at hd <;> cases hd
      rename_i hz
      obtain ⟨p, xs, rfl, h1, h2, h3⟩ := hx
      obtain ⟨q, ys, rfl, g1, g2, g3⟩ := hy
      have hl : xs.length + ys.length ≤ sizeLine := by rw [h3.length, g3.length]; exact hz
      exact .inr (.inr (.inl ⟨_, _, _, _, rfl, rfl, h1, g1, hl, hq.lst r (by rw [List.length_append]; exact hl) (h3.append g3)⟩))
    · split at hd <;> cases hd
      rename_i hz
      have tx : Rp c.Y.K w.I x _ := hx
      have ty : Rp c.Y.K w.I y _ := hy
      cases id tx with | tup h1 h2 h3 =>
      cases id ty with | tup g1 g2 g3 =>
      have h1 := seqT_mono r.same h1
      have g1 := seqT_mono r.same g1
      have hl := hz
      rw [← h3.length, ← g3.length] at hl
      refine .inr (.inr (.inr ⟨_, _, _, _, rfl, rfl, hK ▸ h1, hK ▸ g1, hl, fun e => ?_, fun _ e => ?_, fun _ _ => hq.tup r (by rw [List.length_append]; exact hl) (h3.append g3)⟩))
      · subst e
        cases h3
        exact hq.flat r ty trivial
      · subst e
        cases g3
        rw [List.append_nil] at hq
        exact hq.flat r tx trivial
  | sub =>
    refine ⟨_, op_sub, fun w m H x y dx dy d Q hK r _ _ hx hy hd hq => ?_⟩
    cases dx <;> cases dy <;> simp only [bopD, reduceCtorEq] at hd
    cases hd
    exact ⟨_, _, hx.int, hy.int, hq.flat r (.int _) trivial⟩
  | mul =>
    refine ⟨_, op_mul, fun w m H x y dx dy d Q hK r _ _ hx hy hd hq => ?_⟩
    cases dx <;> cases dy <;> simp only [bopD, reduceCtorEq] at hd
    split at hd <;> cases hd
    rename_i hz
    refine ⟨_, _, hx.int, hy.int, ?_, hq.flat r (.int _) trivial⟩
    rcases (Bool.or_eq_true _ _).mp hz with z | z
    · exact .inl (small_ok z)
    · exact .inr (small_ok z)
  | fdiv =>
    refine ⟨_, op_fdiv, fun w m H x y dx dy d Q hK r _ _ hx hy hd hq => ?_⟩
    cases dx <;> cases dy <;> simp only [bopD, reduceCtorEq] at hd
    split at hd <;> cases hd
    rename_i hz
    exact ⟨_, _, hx.int, hy.int, hz, hq.flat r (.int _) trivial⟩
  | mod =>
    refine ⟨_, op_mod, fun w m H x y dx dy d Q hK r _ _ hx hy hd hq => ?_⟩
    cases dx <;> cases dy <;> simp only [bopD, reduceCtorEq] at hd
    split at hd <;> cases hd
    rename_i hz
    exact ⟨_, _, hx.int, hy.int, hz, hq.flat r (.int _) trivial⟩
  | pow =>
    refine ⟨_, op_pow, fun w m H x y dx dy d Q hK r _ _ hx hy hd hq => ?_⟩
    cases dx <;> cases dy <;> simp only [bopD, reduceCtorEq] at hd
    split at hd <;> cases hd
    rename_i hz
    refine ⟨_, _, hx.int, hy.int, ⟨hz.1, by omega, ?_⟩, hq.flat r (.int _) trivial⟩
    have := small_ok hz.2.2
    omega
theorem jf_bop {o : Bop} {pos : Pos} (hK : X.K = c.Y.K) (ha : JE c X a' a) (hb : JE c X b' b) : JF c X (.BinOp a' (opOf o) b' pos) (.bop o a b) := by
  obtain ⟨t, p, k⟩ := ha
  obtain ⟨u, q, l⟩ := hb
  obtain ⟨r, ho, kr⟩ := bop_ok (X := X) (c := c) o
  refine ⟨_, pe_op ho p q, fun w m H σ env Q hw hr he hp => ?_⟩
  simp only [evE] at hp
  refine k w m H σ env _ hw hr he (post_bind hp fun v m1 w1 H1 x _ l1 r1 v1 hp1 => ?_)
  refine l w1 m1 H1 σ env _ (hw.trans l1) r1 (he.mono l1) (post_bind hp1 fun v' m2 w2 H2 y _ l2 r2 v2 hp2 => ?_)
  have v1' := v1.mono l2
  cases e1 : dOf v m2 with
  | none => rw [e1] at hp2; exact hp2.elim
  | some dx =>
    cases e2 : dOf v' m2 with
    | none => rw [e1, e2] at hp2; exact hp2.elim
    | some dy =>
      rw [e1, e2] at hp2
      have tx := v1'.top r2 e1
      have ty := v2.top r2 e2
      cases e3 : bopD o dx dy with
      | none => simp only [e3, ofD] at hp2; exact hp2.elim
      | some d =>
        simp only [e3, ofD] at hp2
        exact kr w2 m2 H2 x y dx dy d Q hK r2 (tx.rp r2.same) (ty.rp r2.same) tx ty e3 fun w3 H3 z l3 r3 o3 => hp2 w3 H3 z l3 r3 o3
theorem je_neg {pos : Pos} (ha : JE c X a' a) : JE c X (.UnaryOp .USub a' pos) (.neg a) := by
  obtain ⟨t, p, k⟩ := ha
  refine ⟨_, pe_un un_neg p, fun w m H σ env Q hw hr he hp => ?_⟩
  simp only [evE] at hp
  refine k w m H σ env _ hw hr he (post_bind hp fun v m1 w1 H1 x _ l1 r1 v1 hp1 => ?_)
  split at hp1
  · exact ⟨_, v1.int, hp1.here r1 (Rp.int _)⟩
  · exact hp1.elim
end
end Kp
end

section
set_option Elab.async false
set_option linter.all false
set_option maxRecDepth 100000
set_option maxHeartbeats 4000077
/-! D3: comparisons, and, or, not, calls. -/
namespace Kp
open PySem
open PySem.Spec
open PyProof.Rows
open L2
section
variable {c : Cfg} {X : Cx} {e' a' b' d' : Expr} {e a b d : E}
/-! ### data that hold no dict, for the rules over data -/
mutual
theorem Rp.dp {K : PySem.W.Frag} {H : Hp} : ∀ (d : D) (v : V), Rp K H v d → d.canLay0 = true → Dp K H v d
  | .none, _, h, _ => by cases h; exact .non
  | .bool b, _, h, _ => by cases h; exact .bl b
  | .int i, _, h, _ => by cases h; exact .int i
  | .str x, _, h, _ => by cases h; exact .str x
  | .list ds, _, h, q => by
    cases h with
    | lst h1 h2 h3 => exact .lst (.inl h1) (RpAll.dp ds _ h3 (by simpa only [PyData.canLay0] using q))
  | .tuple ds, _, h, q => by
    cases h with
    | tup h1 h2 h3 => exact .tup h1 (RpAll.dp ds _ h3 (by simpa only [PyData.canLay0] using q))
  | .dict ds, _, h, q => by simp [PyData.canLay0] at q
theorem RpAll.dp {K : PySem.W.Frag} {H : Hp} : ∀ (ds : List D) (vs : List V), RpAll K H vs ds → PyData.canLayAll0 ds = true → DpAll K H vs ds
  | [], _, h, _ => by cases h; exact .nil
  | d :: ds, _, h, q => by
    cases h with
    | cons h1 h2 =>
      simp only [PyData.canLayAll0, Bool.and_eq_true] at q
      exact .cons (Rp.dp d _ h1 q.1) (RpAll.dp ds _ h2 q.2)
end
theorem Rp.dps {K : PySem.W.Frag} {H : Hp} {d : D} {v : V} (h : Rp K H v d) (q : SeqAt.shaped d = true) : Dp K H v d := Rp.dp d v h (SeqAt.canLay_of_shaped q)
theorem Rp.flat {K : PySem.W.Frag} {H : Hp} {d : D} {v : V} (h : Rp K H v d) (q : scalD d = true) : flatV v = true := by
  cases d <;> first | (cases h; rfl) | exact absurd (show false = true from q) Bool.false_ne_true
theorem eqV_eqv {K : PySem.W.Frag} {H : Hp} {d e : D} {v u : V} (h : Rp K H v d) (h' : Rp K H u e) (q : scalD d = true) (q' : scalD e = true) : eqV v u = PyData.eqv d e := by
  cases d <;> first | exact absurd (show false = true from q) Bool.false_ne_true | skip
  all_goals cases e <;> first | exact absurd (show false = true from q') Bool.false_ne_true | skip
  all_goals (cases h; cases h'; simp only [eqV, PyData.eqv])
/-- == of what can be compared -/
def rEqG (K : PySem.W.Frag) (neg : Bool) : R2 := fun x y H Q => ∃ d e, Rp K H x d ∧ Rp K H y e ∧ cmpable d e = true ∧ Q (.bl (if neg then !PyData.eqv d e else PyData.eqv d e)) H
theorem scal_of {K : PySem.W.Frag} {H : Hp} {d e : D} {x y : V} (hx : Rp K H x d) (hy : Rp K H y e) (h1 : scalD d = true) (h2 : scalD e = true) : (scal x y = true ∧ decide (x = y) = PyData.eqv d e) ∨ (SeqAt.shaped d = true ∧ SeqAt.shaped e = true) := by
  cases d <;> first | exact absurd (show false = true from h1) Bool.false_ne_true | skip
  all_goals cases e <;> first | exact absurd (show false = true from h2) Bool.false_ne_true | skip
  all_goals cases hx
  all_goals cases hy
  all_goals first
    | exact .inl ⟨rfl, by simp only [PyData.eqv]; first | exact decide_eq_true rfl | exact decide_eq_false (fun q => nomatch q) | exact dec_int | exact dec_bl | exact dec_str⟩
    | exact .inr ⟨by decide, by decide⟩
    | exact .inr ⟨by simp [SeqAt.shaped, PyData.canLay0, PyData.depth], by simp [SeqAt.shaped, PyData.canLay0, PyData.depth]⟩
theorem op_eqG (hu : X.A.units + 64 < cLine) : OpR X (compareOp .Eq) (rEqG X.K false) := by
  intro pins s σ H x y v u Q I rx ry h
  obtain ⟨d, e, hx, hy, hc, q⟩ := h
  have deep : SeqAt.shaped d = true ∧ SeqAt.shaped e = true → wpAny (model X.prog X.w) X.A (compareOp .Eq v u) (EP X pins σ Q) X.xe s := fun ⟨h1, h2⟩ =>
    op_eqD hu pins s σ H x y v u Q I rx ry ⟨d, e, hx.dps h1, hy.dps h2, h1, h2, q⟩
  unfold cmpable at hc
  simp only [Bool.or_eq_true, Bool.and_eq_true] at hc
  rcases hc with ⟨h1, h2⟩ | hc
  · rcases scal_of hx hy h1 h2 with ⟨h3, h4⟩ | h3
    · exact op_eq pins s σ H x y v u Q I rx ry ⟨h3, by rw [h4]; exact q⟩
    · exact deep h3
  · exact deep hc
theorem op_neG (hu : X.A.units + 64 < cLine) : OpR X (compareOp .NotEq) (rEqG X.K true) := by
  intro pins s σ H x y v u Q I rx ry h
  obtain ⟨d, e, hx, hy, hc, q⟩ := h
  have deep : SeqAt.shaped d = true ∧ SeqAt.shaped e = true → wpAny (model X.prog X.w) X.A (compareOp .NotEq v u) (EP X pins σ Q) X.xe s := fun ⟨h1, h2⟩ =>
    op_neD hu pins s σ H x y v u Q I rx ry ⟨d, e, hx.dps h1, hy.dps h2, h1, h2, q⟩
  unfold cmpable at hc
  simp only [Bool.or_eq_true, Bool.and_eq_true] at hc
  rcases hc with ⟨h1, h2⟩ | hc
  · rcases scal_of hx hy h1 h2 with ⟨h3, h4⟩ | h3
    · exact op_ne pins s σ H x y v u Q I rx ry ⟨h3, by rw [h4]; exact q⟩
    · exact deep h3
  · exact deep hc
/-- k in d, a dict -/
def rDIn (neg : Bool) : R2 := fun y x H Q => ∃ a o, x = .ref a ∧ DGet H a y o ∧ Q (.bl (if neg then !o.isSome else o.isSome)) H
theorem op_din (hu : X.A.units + 1 < cLine) : OpR X (compareOp .In) (rDIn false) := by
  intro pins s σ H y x v u Q I ry rx h
  obtain ⟨a, o, rfl, g, q⟩ := h
  cases rx
  exact d_in hu I g ry fun s' I' => ⟨.bl o.isSome, H, I', rfl, by simpa using q⟩
theorem op_dnin (hu : X.A.units + 1 < cLine) : OpR X (compareOp .NotIn) (rDIn true) := by
  intro pins s σ H y x v u Q I ry rx h
  obtain ⟨a, o, rfl, g, q⟩ := h
  cases rx
  exact d_notIn hu I g ry fun s' I' => ⟨.bl (!o.isSome), H, I', rfl, by simpa using q⟩
theorem toKey_rp {K : PySem.W.Frag} {H : Hp} {d : D} {v : V} {k : L2.Key} (h : Rp K H v d) (q : toKey d = some k) : v = kV k := by
  cases d <;> simp only [toKey, reduceCtorEq] at q <;> cases q <;> cases h <;> rfl
theorem key_toKey {k k' : L2.Key} (h : toKey (keyD k) = some k') : k' = k := by
  cases k <;> simp only [keyD, toKey] at h <;> cases h <;> rfl
theorem unKeys_val {K : PySem.W.Frag} {I : Hp} (k : L2.Key) : ∀ {ds : List (D × D)} {ks : List (L2.Key × V)} {kvs : List (Key × D)}, RpKv K I ks ds → unKeys ds = some kvs →
    (∀ d, lookK kvs k = some d → ∃ v, valV ks k = some v ∧ Rp K I v d) ∧ (lookK kvs k = none → valV ks k = none)
  | [], _, kvs, hr, h => by
    cases hr
    simp only [unKeys] at h; cases h
    exact ⟨fun d q => by simp [lookK] at q, fun _ => rfl⟩
  | (kd, d) :: ds, _, kvs, hr, h => by
    cases hr with
    | @cons k0 v ks _ _ h1 h2 =>
      simp only [unKeys] at h
      split at h
      · rename_i k1 s e1 e2
        cases h
        have ek := key_toKey e1
        subst ek
        obtain ⟨i1, i2⟩ := unKeys_val k h2 e2
        by_cases hk : k1 = k
        · subst hk
          refine ⟨fun d' q => ?_, fun q => ?_⟩
          · simp [lookK] at q
            subst q
            exact ⟨v, valV_pos rfl, h1⟩
          · simp [lookK] at q
        · rw [valV_neg hk]
          have e : lookK ((k1, d) :: s) k = lookK s k := by simp [lookK, List.find?_cons, hk]
          rw [e]
          exact ⟨i1, i2⟩
      · cases h
theorem look_isSome {K : PySem.W.Frag} {I : Hp} {k : L2.Key} {ds : List (D × D)} {ks : List (L2.Key × V)} {kvs : List (Key × D)} (h : RpKv K I ks ds) (q : unKeys ds = some kvs) : (valV ks k).isSome = (lookK kvs k).isSome := by
  obtain ⟨i1, i2⟩ := unKeys_val k h q
  cases e : lookK kvs k with
  | none => rw [i2 e]; rfl
  | some d => obtain ⟨v, e', _⟩ := i1 d e; rw [e']; rfl
theorem RpAll.flat {K : PySem.W.Frag} {H : Hp} : ∀ {vs : List V} {ds : List D}, RpAll K H vs ds → ds.all scalD = true → vs.all flatV = true
  | _, _, .nil, _ => rfl
  | _, _, .cons h t, q => by
    rw [List.all_cons, Bool.and_eq_true] at q
    rw [List.all_cons, h.flat q.1, t.flat q.2]; rfl
theorem inV_any {K : PySem.W.Frag} {H : Hp} {x : V} {d : D} (hx : Rp K H x d) (q : scalD d = true) : ∀ {vs : List V} {ds : List D}, RpAll K H vs ds → ds.all scalD = true → inV x vs = ds.any fun z => PyData.eqv z d
  | _, _, .nil, _ => rfl
  | _, _, .cons h t, r => by
    rw [List.all_cons, Bool.and_eq_true] at r
    have := inV_any hx q t r.2
    unfold inV at this ⊢
    rw [List.any_cons, List.any_cons, this, eqV_eqv h hx r.1 q]
theorem RpT.lst {K : PySem.W.Frag} {w : Wo} {H : Hp} {x : V} {l : List D} (h : RpT K w H x (.list l)) : ∃ p xs, x = .ref p ∧ Rd H p (.lst xs) ∧ xs.length ≤ sizeLine ∧ RpAll K w.I xs l := h
theorem RpT.tup {K : PySem.W.Frag} {w : Wo} {H : Hp} {x : V} {l : List D} (s : Same w.I H) (h : RpT K w H x (.tuple l)) : ∃ p xs, x = .ref p ∧ SqT K H p xs ∧ xs.length ≤ sizeLine ∧ RpAll K w.I xs l := by
  cases (show Rp K w.I x (.tuple l) from h) with
  | tup h1 h2 h3 => exact ⟨_, _, rfl, seqT_mono s h1, h2, h3⟩
def cmpOf : Cop → CmpOp
  | .eq => .Eq | .ne => .NotEq | .lt => .Lt | .le => .LtE | .gt => .Gt | .ge => .GtE | .inn => .In | .nin => .NotIn
theorem intsOf_rp {K : PySem.W.Frag} {I : Hp} : ∀ {ds : List D} {vs : List V} {is : List Int}, RpAll K I vs ds → intsOf ds = some is → vs = is.map V.int
  | [], _, is, .nil, h => by simp only [intsOf] at h; cases h; rfl
  | d :: ds, _, is, .cons h1 h2, h => by
    cases d <;> simp only [intsOf, reduceCtorEq, Option.map_eq_some_iff] at h
    obtain ⟨js, e, rfl⟩ := h
    cases h1
    rw [intsOf_rp h2 e]; rfl
theorem cmp_ok (hu : X.A.units + 65 < cLine) (o : Cop) : ∃ r, OpR X (compareOp (cmpOf o)) r ∧ ∀ w m H x y dx dy k Q, X.K = c.Y.K → Rl c.Y w m H → RpT c.Y.K w H x dx → RpT c.Y.K w H y dy → cmpD o dx dy = some k → Q (.bl k) H → r x y H Q := by
  cases o with
  | eq =>
    refine ⟨_, op_eqG (by omega), fun w m H x y dx dy k Q hK r hx hy hd hq => ?_⟩
    simp only [cmpD] at hd
    split at hd <;> cases hd
    rename_i hc
    exact ⟨dx, dy, hK ▸ hx.rp r.same, hK ▸ hy.rp r.same, hc, hq⟩
  | ne =>
    refine ⟨_, op_neG (by omega), fun w m H x y dx dy k Q hK r hx hy hd hq => ?_⟩
    simp only [cmpD] at hd
    split at hd <;> cases hd
    rename_i hc
    exact ⟨dx, dy, hK ▸ hx.rp r.same, hK ▸ hy.rp r.same, hc, hq⟩
  | lt =>
    refine ⟨_, op_lt.or (op_lt_str.or (op_ltT (by omega))), fun w m H x y dx dy k Q hK r hx hy hd hq => ?_⟩
    cases dx <;> cases dy <;> simp only [cmpD, ltD, reduceCtorEq] at hd
    · cases hd; exact .inl ⟨_, _, hx.int, hy.int, hq⟩
    · cases hd; exact .inr (.inl ⟨_, _, hx.str, hy.str, hq⟩)
    · split at hd
      · rename_i is js e1 e2
        cases hd
        obtain ⟨p, xs, rfl, h1, h2, h3⟩ := hx.tup r.same
        obtain ⟨q, ys, rfl, g1, g2, g3⟩ := hy.tup r.same
        have := intsOf_rp h3 e1
        have := intsOf_rp g3 e2
        subst xs ys
        exact .inr (.inr ⟨p, q, is, js, rfl, rfl, hK ▸ h1, hK ▸ g1, hq⟩)
      · cases hd
  | le =>
    refine ⟨_, op_le, fun w m H x y dx dy k Q hK r hx hy hd hq => ?_⟩
    cases dx <;> cases dy <;> simp only [cmpD, reduceCtorEq] at hd
    cases hd; exact ⟨_, _, hx.int, hy.int, hq⟩
  | gt =>
    refine ⟨_, op_gt, fun w m H x y dx dy k Q hK r hx hy hd hq => ?_⟩
    cases dx <;> cases dy <;> simp only [cmpD, reduceCtorEq] at hd
    cases hd; exact ⟨_, _, hx.int, hy.int, hq⟩
  | ge =>
    refine ⟨_, op_ge, fun w m H x y dx dy k Q hK r hx hy hd hq => ?_⟩
    cases dx <;> cases dy <;> simp only [cmpD, reduceCtorEq] at hd
    cases hd; exact ⟨_, _, hx.int, hy.int, hq⟩
  | inn =>
    refine ⟨_, op_in_seq.or ((op_inD hu).or (op_in_sign.or (op_din (by omega)))), fun w m H x y dx dy k Q hK r hx hy hd hq => ?_⟩
    simp only [cmpD] at hd
    cases dy <;> simp only [inD, reduceCtorEq] at hd
    · rename_i s
      split at hd <;> cases hd
      exact .inr (.inr (.inl ⟨_, _, hx.str, hy.str, hq⟩))
    · rename_i l
      split at hd <;> cases hd
      rename_i hc
      simp only [Bool.or_eq_true, Bool.and_eq_true] at hc
      have hx' := hx.rp r.same
      rcases hc with ⟨h1, h2⟩ | ⟨h1, h2⟩
      · obtain ⟨p, xs, rfl, g1, g2, g3⟩ := hy.lst
        refine .inl ⟨p, xs, rfl, .inl (.inl g1), hx'.flat h1, g3.flat h2, ?_⟩
        rw [if_neg Bool.false_ne_true, inV_any hx' h1 (g3.mono r.same) h2]
        exact hq
      · exact .inr (.inl ⟨dx, l, hK ▸ hx'.dps h1, hK ▸ (hy.rp r.same).dps h2, h1, h2, hq⟩)
    · rename_i l
      split at hd <;> cases hd
      rename_i hc
      simp only [Bool.and_eq_true] at hc
      have hx' := hx.rp r.same
      obtain ⟨p, xs, rfl, g1, g2, g3⟩ := hy.tup r.same
      refine .inl ⟨p, xs, rfl, .inr (hK ▸ g1), hx'.flat hc.1, g3.flat hc.2, ?_⟩
      rw [if_neg Bool.false_ne_true, inV_any hx' hc.1 (g3.mono r.same) hc.2]
      exact hq
    · split at hd <;> cases hd
      rename_i k0 kvs e1 e2
      obtain ⟨p, ks, rfl, g1, g2⟩ := hy
      have hx' := hx.rp r.same
      have := toKey_rp hx' e1
      subst this
      refine .inr (.inr (.inr ⟨p, _, rfl, .k g1, ?_⟩))
      rw [if_neg Bool.false_ne_true, look_isSome g2 e2]
      exact hq
  | nin =>
    refine ⟨_, op_notIn_seq.or ((op_notInD hu).or (op_notIn_sign.or (op_dnin (by omega)))), fun w m H x y dx dy k Q hK r hx hy hd hq => ?_⟩
    simp only [cmpD, Option.map_eq_some_iff] at hd
    obtain ⟨k, hd, rfl⟩ := hd
    cases dy <;> simp only [inD, reduceCtorEq] at hd
    · rename_i s
      split at hd <;> cases hd
      exact .inr (.inr (.inl ⟨_, _, hx.str, hy.str, hq⟩))
    · rename_i l
      split at hd <;> cases hd
      rename_i hc
      simp only [Bool.or_eq_true, Bool.and_eq_true] at hc
      have hx' := hx.rp r.same
      rcases hc with ⟨h1, h2⟩ | ⟨h1, h2⟩
      · obtain ⟨p, xs, rfl, g1, g2, g3⟩ := hy.lst
        refine .inl ⟨p, xs, rfl, .inl (.inl g1), hx'.flat h1, g3.flat h2, ?_⟩
        rw [if_pos rfl, inV_any hx' h1 (g3.mono r.same) h2]
        exact hq
      · exact .inr (.inl ⟨dx, l, hK ▸ hx'.dps h1, hK ▸ (hy.rp r.same).dps h2, h1, h2, hq⟩)
    · rename_i l
      split at hd <;> cases hd
      rename_i hc
      simp only [Bool.and_eq_true] at hc
      have hx' := hx.rp r.same
      obtain ⟨p, xs, rfl, g1, g2, g3⟩ := hy.tup r.same
      refine .inl ⟨p, xs, rfl, .inr (hK ▸ g1), hx'.flat hc.1, g3.flat hc.2, ?_⟩
      rw [if_pos rfl, inV_any hx' hc.1 (g3.mono r.same) hc.2]
      exact hq
    · split at hd <;> cases hd
      rename_i k0 kvs e1 e2
      obtain ⟨p, ks, rfl, g1, g2⟩ := hy
      have hx' := hx.rp r.same
      have := toKey_rp hx' e1
      subst this
      refine .inr (.inr (.inr ⟨p, _, rfl, .k g1, ?_⟩))
      rw [if_pos rfl, look_isSome g2 e2]
      exact hq
end
end Kp
end

section
set_option Elab.async false
set_option linter.all false
set_option maxRecDepth 100000
set_option maxHeartbeats 4000077
/-! D4: comparisons as terms, and, or, not, calls, parts. -/
namespace Kp
open PySem
open PySem.Spec
open PyProof.Rows
open L2
section
variable {c : Cfg} {X : Cx} {e' a' b' d' : Expr} {e a b d : E}
theorem je_cmp {o : Cop} {pos : Pos} (hK : X.K = c.Y.K) (hu : X.A.units + 65 < cLine) (ha : JE c X a' a) (hb : JE c X b' b) (hm : behindInMarks (cmpOf o) b' = false) : JEt c X (.Compare a' [cmpOf o] [b'] pos) (.cmp o a b) := by
  obtain ⟨t, p, k⟩ := ha
  obtain ⟨u, q, l⟩ := hb
  obtain ⟨r, ho, kr⟩ := cmp_ok (X := X) (c := c) hu o
  refine ⟨_, pe_cmpR ho p q hm, pt_cmpR ho p q hm, fun w m H σ env Q hw hr he hp => ?_⟩
  simp only [evE] at hp
  refine k w m H σ env _ hw hr he (post_bind hp fun v m1 w1 H1 x hv_H1 l1 r1 v1 hp1 => ?_)
  refine l w1 m1 H1 σ env _ (hw.trans l1) r1 (he.mono l1) (post_bind hp1 fun v' m2 w2 H2 y hv_H2 l2 r2 v2 hp2 => ?_)
  have v1' := v1.mono l2
  cases e1 : dOf v m2 with
  | none => rw [e1] at hp2; exact hp2.elim
  | some dx =>
    cases e2 : dOf v' m2 with
    | none => rw [e1, e2] at hp2; exact hp2.elim
    | some dy =>
      rw [e1, e2] at hp2
      cases e3 : cmpD o dx dy with
      | none => simp only [e3, ofB] at hp2; exact hp2.elim
      | some kk =>
        simp only [e3, ofB] at hp2
        exact kr w2 m2 H2 x y dx dy kk Q hK r2 (v1'.top r2 e1) (v2.top r2 e2) e3 (hp2.here r2 (Rp.bl kk))
theorem RV.non_iff {K : PySem.W.Frag} {w : Wo} {x : V} {v : Val} (h : RV K w x v) : decide (x = .non) = isNon v := by
  cases v with
  | d y =>
    cases h <;> first | exact decide_eq_true rfl | exact decide_eq_false (fun q => nomatch q)
  | loc a =>
    obtain ⟨p, _, rfl⟩ := h
    exact decide_eq_false (fun q => nomatch q)
  | exc _ _ => exact h.elim
theorem je_isN {j : Nat} {pos' pos : Pos} (ha : JE c X a' a) : JEt c X (.Compare a' [.Is] [.Constant .none j pos'] pos) (.isN a) := by
  obtain ⟨t, p, k⟩ := ha
  refine ⟨_, pe_cmp (pc_isN p), pt_cmp (pc_isN p), fun w m H σ env Q hw hr he hp => ?_⟩
  simp only [evE] at hp
  refine k w m H σ env _ hw hr he (post_bind hp fun v m1 w1 H1 x hv l1 r1 v1 hp1 => ?_)
  rw [v1.non_iff]
  exact hp1.here r1 (Rp.bl _)
theorem je_notN {j : Nat} {pos' pos : Pos} (ha : JE c X a' a) : JEt c X (.Compare a' [.IsNot] [.Constant .none j pos'] pos) (.notN a) := by
  obtain ⟨t, p, k⟩ := ha
  refine ⟨_, pe_cmp (pc_notN p), pt_cmp (pc_notN p), fun w m H σ env Q hw hr he hp => ?_⟩
  simp only [evE] at hp
  refine k w m H σ env _ hw hr he (post_bind hp fun v m1 w1 H1 x hv l1 r1 v1 hp1 => ?_)
  rw [v1.non_iff]
  exact hp1.here r1 (Rp.bl _)
/-- a op b op c of numbers -/
theorem je_chn {o o2 : Cop} {pos : Pos} (hK : X.K = c.Y.K) (hu : X.A.units + 65 < cLine) (ha : JE c X a' a) (hb : JE c X b' b) (hd : JE c X d' d) (hm : lastMarks [cmpOf o, cmpOf o2] [b', d'] = false) :
    JEt c X (.Compare a' [cmpOf o, cmpOf o2] [b', d'] pos) (.chn o o2 a b d) := by
  obtain ⟨t, p, k⟩ := ha
  obtain ⟨u, q, l⟩ := hb
  obtain ⟨s, f, g⟩ := hd
  obtain ⟨r, ho, kr⟩ := cmp_ok (X := X) (c := c) hu o
  obtain ⟨r', ho', kr'⟩ := cmp_ok (X := X) (c := c) hu o2
  refine ⟨_, pe_chain ho ho' p q f hm, pt_chain ho ho' p q f hm, fun w m H σ env Q hw hr he hp => ?_⟩
  simp only [evE] at hp
  refine k w m H σ env _ hw hr he (post_bind hp fun v m1 w1 H1 x hv_H1 l1 r1 v1 hp1 => ?_)
  refine l w1 m1 H1 σ env _ (hw.trans l1) r1 (he.mono l1) (post_bind hp1 fun v' m2 w2 H2 y hv_H2 l2 r2 v2 hp2 => ?_)
  have v1' := v1.mono l2
  split at hp2
  · rename_i i j
    split at hp2
    · rename_i hc
      refine kr w2 m2 H2 x y _ _ true _ hK r2 (Rp.top v1' r2.same) (Rp.top v2 r2.same) hc ⟨true, rfl, ?_⟩
      rw [if_pos rfl]
      refine g w2 m2 H2 σ env _ ((hw.trans l1).trans l2) r2 ((he.mono l1).mono l2) (post_bind hp2 fun z m3 w3 H3 zz hv_H3 l3 r3 v3 hp3 => ?_)
      split at hp3
      · rename_i kk
        cases e3 : cmpD o2 (.int j) (.int kk) with
        | none => simp only [e3, ofB] at hp3; exact hp3.elim
        | some bb =>
          simp only [e3, ofB] at hp3
          exact kr' w3 m3 H3 y zz _ _ bb Q hK r3 (Rp.top (v2.mono l3) r3.same) (Rp.top v3 r3.same) e3 (hp3.here r3 (Rp.bl bb))
      · exact hp3.elim
    · rename_i hc
      refine kr w2 m2 H2 x y _ _ false _ hK r2 (Rp.top v1' r2.same) (Rp.top v2 r2.same) hc ⟨false, rfl, ?_⟩
      rw [if_neg Bool.false_ne_true]
      exact hp2.here r2 (Rp.bl false)
    · exact hp2.elim
  · exact hp2.elim
/-! and, or, not, if .. else -/
theorem asB_bind {α : Type} {v : Val} {m : Store} {f : Bool → Store → Out α} : (asB v m).bind f = match v with | .d (.bool b) => f b m | _ => .stuck := by
  unfold asB
  split <;> simp_all
theorem je_one {op : BoolOp} {pos : Pos} (h : JE c X a' a) : JE c X (.BoolOp op [a'] pos) a := let ⟨t, p, k⟩ := h; ⟨_, pe_one p, k⟩
theorem je_land {rest : List Expr} {pos : Pos} (ha : JE c X a' a) (hb : JE c X (.BoolOp .And (b' :: rest) pos) b) : JE c X (.BoolOp .And (a' :: b' :: rest) pos) (.land a b) := by
  obtain ⟨t, p, k⟩ := ha
  obtain ⟨u, q, l⟩ := hb
  refine ⟨_, pe_and p q, fun w m H σ env Q hw hr he hp => ?_⟩
  simp only [evE, asB_bind] at hp
  refine k w m H σ env _ hw hr he (post_bind hp fun v m1 w1 H1 x hv_H1 l1 r1 v1 hp1 => ?_)
  split at hp1
  · rename_i bb
    refine ⟨bb, v1.bool, ?_⟩
    cases bb with
    | true => exact l w1 m1 H1 σ env _ (hw.trans l1) r1 (he.mono l1) hp1
    | false => exact hp1.here r1 (Rp.bl false)
  · exact hp1.elim
theorem je_lor {rest : List Expr} {pos : Pos} (ha : JE c X a' a) (hb : JE c X (.BoolOp .Or (b' :: rest) pos) b) : JE c X (.BoolOp .Or (a' :: b' :: rest) pos) (.lor a b) := by
  obtain ⟨t, p, k⟩ := ha
  obtain ⟨u, q, l⟩ := hb
  refine ⟨_, pe_or p q, fun w m H σ env Q hw hr he hp => ?_⟩
  simp only [evE, asB_bind] at hp
  refine k w m H σ env _ hw hr he (post_bind hp fun v m1 w1 H1 x hv_H1 l1 r1 v1 hp1 => ?_)
  split at hp1
  · rename_i bb
    refine ⟨bb, v1.bool, ?_⟩
    cases bb with
    | true => exact hp1.here r1 (Rp.bl true)
    | false => exact l w1 m1 H1 σ env _ (hw.trans l1) r1 (he.mono l1) hp1
  · exact hp1.elim
theorem je_lnot {pos : Pos} (ha : JE c X a' a) : JE c X (.UnaryOp .Not a' pos) (.lnot a) := by
  obtain ⟨t, p, k⟩ := ha
  refine ⟨_, pe_not p, fun w m H σ env Q hw hr he hp => ?_⟩
  simp only [evE, asB_bind] at hp
  refine k w m H σ env _ hw hr he (post_bind hp fun v m1 w1 H1 x hv_H1 l1 r1 v1 hp1 => ?_)
  split at hp1
  · rename_i bb
    exact ⟨bb, v1.bool, hp1.here r1 (Rp.bl (!bb))⟩
  · exact hp1.elim
theorem je_ite {pos : Pos} (hd : JT c X d' d) (ha : JE c X a' a) (hb : JE c X b' b) : JE c X (.IfExp d' a' b' pos) (.ite d a b) := by
  obtain ⟨s, f, g⟩ := hd
  obtain ⟨t, p, k⟩ := ha
  obtain ⟨u, q, l⟩ := hb
  refine ⟨_, pe_ifExp f p q, fun w m H σ env Q hw hr he hp => ?_⟩
  simp only [evE] at hp
  rw [← bind_assoc] at hp
  refine g w m H σ env _ hw hr he (post_bind (r := evB c d env m) hp fun v m1 w1 H1 x hv_H1 l1 r1 v1 hp1 => ?_)
  have v1 : x = v := v1
  subst v1
  cases x with
  | true => exact k w1 m1 H1 σ env _ (hw.trans l1) r1 (he.mono l1) hp1
  | false => exact l w1 m1 H1 σ env _ (hw.trans l1) r1 (he.mono l1) hp1
/-! the same as tests -/
theorem jw_and1 {pos : Pos} (h : JT c X a' a) : JW c X (.BoolOp .And [a'] pos) a := let ⟨t, p, k⟩ := h; ⟨_, pw_and1 p, k⟩
theorem jw_or1 {pos : Pos} (h : JT c X a' a) : JW c X (.BoolOp .Or [a'] pos) a := let ⟨t, p, k⟩ := h; ⟨_, pw_or1 p, k⟩
theorem evB_land {env : Env} {m : Store} : evB c (.land a b) env m = (evB c a env m).bind fun x m => if x then evB c b env m else .ok false m := by
  unfold evB
  simp only [evE, bind_assoc]
  congr 1
  funext v m1
  congr 1
  funext bb m2
  cases bb <;> rfl
theorem evB_lor {env : Env} {m : Store} : evB c (.lor a b) env m = (evB c a env m).bind fun x m => if x then .ok true m else evB c b env m := by
  unfold evB
  simp only [evE, bind_assoc]
  congr 1
  funext v m1
  congr 1
  funext bb m2
  cases bb <;> rfl
theorem evB_lnot {env : Env} {m : Store} : evB c (.lnot a) env m = (evB c a env m).bind fun x m => .ok (!x) m := by
  unfold evB
  simp only [evE, bind_assoc]
  rfl
theorem jw_land {rest : List Expr} {pos : Pos} (ha : JT c X a' a) (hb : JW c X (.BoolOp .And (b' :: rest) pos) b) : JW c X (.BoolOp .And (a' :: b' :: rest) pos) (.land a b) := by
  obtain ⟨t, p, k⟩ := ha
  obtain ⟨u, q, l⟩ := hb
  refine ⟨_, pw_and p q, fun w m H σ env Q hw hr he hp => ?_⟩
  rw [evB_land] at hp
  refine k w m H σ env _ hw hr he (post_bind hp fun v m1 w1 H1 x hv_H1 l1 r1 v1 hp1 => ?_)
  have v1 : x = v := v1
  subst v1
  cases x with
  | true => exact l w1 m1 H1 σ env _ (hw.trans l1) r1 (he.mono l1) hp1
  | false => exact hp1.here r1 rfl
theorem jw_lor {rest : List Expr} {pos : Pos} (ha : JT c X a' a) (hb : JW c X (.BoolOp .Or (b' :: rest) pos) b) : JW c X (.BoolOp .Or (a' :: b' :: rest) pos) (.lor a b) := by
  obtain ⟨t, p, k⟩ := ha
  obtain ⟨u, q, l⟩ := hb
  refine ⟨_, pw_or p q, fun w m H σ env Q hw hr he hp => ?_⟩
  rw [evB_lor] at hp
  refine k w m H σ env _ hw hr he (post_bind hp fun v m1 w1 H1 x hv_H1 l1 r1 v1 hp1 => ?_)
  have v1 : x = v := v1
  subst v1
  cases x with
  | true => exact hp1.here r1 rfl
  | false => exact l w1 m1 H1 σ env _ (hw.trans l1) r1 (he.mono l1) hp1
theorem jt_lnot {pos : Pos} (ha : JT c X a' a) : JT c X (.UnaryOp .Not a' pos) (.lnot a) := by
  obtain ⟨t, p, k⟩ := ha
  refine ⟨_, pt_not p, fun w m H σ env Q hw hr he hp => ?_⟩
  rw [evB_lnot] at hp
  refine k w m H σ env _ hw hr he (post_bind hp fun v m1 w1 H1 x hv_H1 l1 r1 v1 hp1 => ?_)
  have v1 : x = v := v1
  subst v1
  exact hp1.here r1 rfl
/-! calls of the text's own -/
def spOf (Y : Wd) (mg : Str → Option Value) (Φ : Calls) (f : Nat) (own : Bool) : Sp := fun vs H Q E => ∃ w m args, Rl Y w m H ∧ RVs Y.K w vs args ∧
  (match Φ f args m with
  | .ok v m' => ∀ I' H' x, Same w.I I' → Rl Y ⟨I', w.α⟩ m' H' → (if own = true then OwnV Y.K ⟨I', w.α⟩ H' x v else RV Y.K ⟨I', w.α⟩ x v) → Q x H'
  | .exc e m' => ∀ I' H' cls d, Same w.I I' → Rl Y ⟨I', w.α⟩ m' H' → ExR mg e cls d H' → E cls d H'
  | .stuck => False)
/-- the def x, number f, may be called here -/

def CallOk (c : Cfg) (X : Cx) (x : Str) (f : Nat) (own : Bool) : Prop :=
  ∃ k fa fd ps, FnOk X.prog X.w X.K X.mg X.base (L2.CX X.prog X.w) k fa fd ps (spOf c.Y c.mg c.Φ f own) ∧ Room k X.A ∧ X.mg x = some (.ref fa) ∧ PySem.W.keepIn X.K (.ref fa) = true ∧ Binds X.K fd ps []
theorem call_post {f : Nat} {own : Bool} {w1 : Wo} {m1 : Store} {H1 : Hp} {xs : List V} {vs : List Val} {Q : VK} (hw : c.w0.le w1) (r1 : Rl c.Y w1 m1 H1) (v1 : RVs c.Y.K w1 xs vs)
    (hp : PostG c w1 (fun w H x v => if own = true then OwnV c.Y.K w H x v else RV c.Y.K w x v) (c.Φ f vs m1) Q) :
    spOf c.Y c.mg c.Φ f own xs H1 Q (fun cls d H' => wish c cls d [] H') := by
  refine ⟨w1, m1, vs, r1, v1, ?_⟩
  cases hq : c.Φ f vs m1 with
  | ok v m' =>
    rw [hq] at hp
    exact fun I' H' x s r o => hp ⟨I', w1.α⟩ H' x ⟨s, List.prefix_refl _⟩ r o
  | exc ex m' =>
    rw [hq] at hp
    exact fun I' H' cls dd s r q => ⟨⟨I', w1.α⟩, ex, m', hw.trans ⟨s, List.prefix_refl _⟩, r, q, hp⟩
  | stuck => rw [hq] at hp; exact hp.elim
theorem je_call {x : Str} {f : Nat} {own : Bool} {es' : List Expr} {es : List E} {p pos : Pos} (tk : Takes X (wish c)) (h : CallOk c X x f own) (hg : Gl X x) (ha : JA c X es' es) (hdb : (x == ("__debug__" : Str)) = false) (hne : es' ≠ [])
    (hs : ∀ a r, es' = a :: r → starEach (a :: r) X.env = (false, eval a X.env) :: starEach r X.env) (hpl : ∀ a r, es' = a :: r → (backTo pos (starEach r X.env)).any (·.1) = false) :
    (own = true → JF c X (.Call (.Name x p) es' [] pos) (.call f es)) ∧ (own = false → JE c X (.Call (.Name x p) es' [] pos) (.call f es)) := by
  obtain ⟨k, fa, fd, ps, F, hr, hm, hk, hb⟩ := h
  have hx : Passes (L2.CX X.prog X.w) X (fun cls d H' => wish c cls d [] H') := passes_call tk fun _ _ _ _ z => z
  obtain ⟨t, pa, l⟩ := ha
  cases es' with
  | nil => exact absurd rfl hne
  | cons e r =>
    have P := pe_call (pos := pos) (p := p) F hr hg hm hk hb .nil hx pa hdb (hs e r rfl) (hpl e r rfl)
    have main : ∀ w m H (σ : L2.St) env Q, c.w0.le w → Rl c.Y w m H → EnvR c.Y.K w env σ →
        PostG c w (fun w H x v => if own = true then OwnV c.Y.K w H x v else RV c.Y.K w x v) (evE c.Φ c.G (.call f es) env m) Q → tCall (spOf c.Y c.mg c.Φ f own) [] (fun cls d H' => wish c cls d [] H') t σ H Q := by
      intro w m H σ env Q hw hr he hp
      simp only [evE] at hp
      refine l w m H σ env _ hw hr he (post_bind hp fun vs m1 w1 H1 xs hv l1 r1 v1 hp1 => ?_)
      rw [List.append_nil]
      exact call_post (hw.trans l1) r1 v1 hp1
    refine ⟨fun ho => ?_, fun ho => ?_⟩
    · subst ho
      exact ⟨_, P, fun w m H σ env Q hw hr he hp => main w m H σ env Q hw hr he (by simpa using hp)⟩
    · subst ho
      exact ⟨_, P, fun w m H σ env Q hw hr he hp => main w m H σ env Q hw hr he (by simpa using hp)⟩
end
end Kp
end

section
set_option Elab.async false
set_option linter.all false
set_option maxRecDepth 100000
set_option maxHeartbeats 4000077
/-! D5: parts, slices, kinds, built-in functions, methods. -/
namespace Kp
open PySem
open PySem.Spec
open PyProof.Rows
open L2
section
variable {c : Cfg} {X : Cx} {e' a' b' d' : Expr} {e a b d : E}
/-! parts -/
def rIxD : R2 := fun x y H Q => ∃ a v, x = .ref a ∧ DGet H a y (some v) ∧ Q v H
theorem ix_dict (hu : X.A.units + 1 < cLine) : IxR X rIxD := by
  intro value slice pins s σ H x y v u Q I rx ry h hs
  obtain ⟨a, z, rfl, g, q⟩ := h
  cases rx
  exact tail_any (dict_typeIs I g) PySem.F.slot_dict_getitem.lookup (d_getItem hu I g ry fun w' s3 I3 rw' => ⟨z, H, I3, rw', q⟩) hs
theorem atI_all {K : PySem.W.Frag} {I : Hp} {vs : List V} {ds : List D} {i : Int} {d : D} (h : RpAll K I vs ds) (q : atI ds i = some d) : ∃ v, atI vs i = some v ∧ Rp K I v d := by
  unfold atI at q ⊢
  rw [h.length]
  cases e : ixN ds.length i with
  | none => rw [e] at q; cases q
  | some j =>
    rw [e] at q
    obtain ⟨v, h1, h2⟩ := h.get (show ds[j]? = some d from q)
    exact ⟨v, h1, h2⟩
theorem je_idx {pos : Pos} (hK : X.K = c.Y.K) (hu : X.A.units + 65 < cLine) (ha : JE c X a' a) (hb : JE c X b' b) (hs : PlainIx b') : JE c X (.Subscript a' b' pos) (.idx a b) := by
  obtain ⟨t, p, k⟩ := ha
  obtain ⟨u, q, l⟩ := hb
  refine ⟨_, pe_ix (ix_seq.or (ix_dict (by omega))) p q hs, fun w m H σ env Q hw hr he hp => ?_⟩
  simp only [evE] at hp
  refine k w m H σ env _ hw hr he (post_bind hp fun v m1 w1 H1 x hv l1 r1 v1 hp1 => ?_)
  refine l w1 m1 H1 σ env _ (hw.trans l1) r1 (he.mono l1) (post_bind hp1 fun v' m2 w2 H2 y hv' l2 r2 v2 hp2 => ?_)
  have v1' := v1.mono l2
  cases e1 : dOf v m2 with
  | none => rw [e1] at hp2; exact hp2.elim
  | some dx =>
    cases e2 : dOf v' m2 with
    | none => rw [e1, e2] at hp2; exact hp2.elim
    | some dy =>
      rw [e1, e2] at hp2
      have hx := v1'.top r2 e1
      have hy := v2.top r2 e2
      cases e3 : idxD dx dy with
      | none => simp only [e3, ofD] at hp2; exact hp2.elim
      | some z =>
        simp only [e3, ofD] at hp2
        have fin : ∀ vv, Rp c.Y.K w2.I vv z → Q vv H2 := fun vv rv => hp2.here r2 rv
        cases dx <;> simp only [idxD, reduceCtorEq] at e3
        · cases dy <;> simp only [reduceCtorEq] at e3
          split at e3
          · rename_i hz
            simp only [Option.map_eq_some_iff] at e3
            obtain ⟨ch, e4, rfl⟩ := e3
            exact .inl (.inr (.inr ⟨_, _, ch, hx.str, hy.int, hz, e4, fin _ (.str _)⟩))
          · cases e3
        · cases dy <;> simp only [reduceCtorEq] at e3
          obtain ⟨pp, xs, rfl, h1, h2, h3⟩ := hx.lst
          obtain ⟨vv, g1, g2⟩ := atI_all h3 e3
          exact .inl (.inl ⟨pp, xs, _, vv, rfl, hy.int, .inl h1, g1, fin _ g2⟩)
        · cases dy <;> simp only [reduceCtorEq] at e3
          obtain ⟨pp, xs, rfl, h1, h2, h3⟩ := hx.tup r2.same
          obtain ⟨vv, g1, g2⟩ := atI_all h3 e3
          exact .inl (.inr (.inl ⟨pp, xs, _, vv, rfl, hy.int, hK ▸ h1, g1, fin _ g2⟩))
        · split at e3
          · rename_i k0 kvs f1 f2
            obtain ⟨pp, ks, rfl, h1, h2⟩ := hx
            have := toKey_rp (hy.rp r2.same) f1
            subst this
            obtain ⟨i1, _⟩ := unKeys_val k0 h2 f2
            obtain ⟨vv, g1, g2⟩ := i1 _ e3
            exact .inr ⟨pp, vv, rfl, g1 ▸ DGet.k h1, fin _ g2⟩
          · cases e3
theorem cut_all {K : PySem.W.Frag} {I : Hp} {vs : List V} {ds : List D} (lo hi : Option Int) (h : RpAll K I vs ds) : RpAll K I (cutV vs lo hi) (cut ds lo hi) := by
  unfold cutV cut
  rw [h.length]
  exact (h.drop _).take _
/-- an end of a slice -/
def JO (c : Cfg) (X : Cx) (o : Option Expr) (hb : Bool) (e : E) : Prop := ∃ t : TO, PO X o t ∧ ∀ w m H (σ : L2.St) env Q, c.w0.le w → Rl c.Y w m H → EnvR c.Y.K w env σ →
  PostG c w (fun _ _ (x : Option Int) v => x = v) (if hb then (evE c.Φ c.G e env m).bind fun l m => match l with | .d (.int i) => .ok (some i) m | _ => .stuck else .ok none m) Q → t σ H Q
theorem jo_none : JO c X none false e := ⟨_, po_none, fun w m H σ env Q hw hr he hp => PostG.here (S := fun _ _ (x : Option Int) v => x = v) (by simpa using hp) hr rfl⟩
theorem jo_some (h : JE c X e' e) : JO c X (some e') true e := by
  obtain ⟨t, p, k⟩ := h
  refine ⟨_, po_some p, fun w m H σ env Q hw hr he hp => ?_⟩
  simp only [if_true] at hp
  refine k w m H σ env _ hw hr he (post_bind hp fun v m1 w1 H1 x hv l1 r1 v1 hp1 => ?_)
  split at hp1
  · exact ⟨_, v1.int, hp1.here r1 rfl⟩
  · exact hp1.elim
theorem jf_slc {lo hi : Option Expr} {hl hh : Bool} {el eh : E} {p2 pos : Pos} (hK : X.K = c.Y.K) (ha : JE c X a' a) (h1 : JO c X lo hl el) (h2 : JO c X hi hh eh) : JF c X (.Subscript a' (.Slice lo hi none p2) pos) (.slc a hl hh el eh) := by
  obtain ⟨t, p, k⟩ := ha
  obtain ⟨t1, p1, k1⟩ := h1
  obtain ⟨t2, q2, k2⟩ := h2
  refine ⟨_, pe_slice (sl_list.or sl_tupA) p p1 q2, fun w m H σ env Q hw hr he hp => ?_⟩
  simp only [evE] at hp
  refine k w m H σ env _ hw hr he (post_bind hp fun v m1 w1 H1 x hv l1 r1 v1 hp1 => ?_)
  refine k1 w1 m1 H1 σ env _ (hw.trans l1) r1 (he.mono l1) (post_bind hp1 fun v' m2 w2 H2 y hv' l2 r2 v2 hp2 => ?_)
  have v2 : y = v' := v2
  subst v2
  refine k2 w2 m2 H2 σ env _ ((hw.trans l1).trans l2) r2 ((he.mono l1).mono l2) (post_bind hp2 fun v'' m3 w3 H3 z hv'' l3 r3 v3 hp3 => ?_)
  have v3 : z = v'' := v3
  subst v3
  have v1' := (v1.mono l2).mono l3
  cases e1 : dOf v m3 with
  | none => rw [e1] at hp3; exact hp3.elim
  | some dx =>
    rw [e1] at hp3
    have hx := v1'.top r3 e1
    cases e3 : slcD dx y z with
    | none => simp only [e3, ofD] at hp3; exact hp3.elim
    | some dd =>
      simp only [e3, ofD] at hp3
      have want : WantD c w3 m3 dd Q := fun w4 H4 zz l4 r4 o4 => hp3 w4 H4 zz l4 r4 o4
      cases dx <;> simp only [slcD, reduceCtorEq] at e3
      · cases e3
        obtain ⟨pp, xs, rfl, h1, h2, h3⟩ := hx.lst
        refine .inl ⟨pp, xs, rfl, .inl h1, want.lst r3 (Nat.le_trans (cutV_length _ _ _) h2) (cut_all _ _ h3)⟩
      · cases e3
        have hx' : Rp c.Y.K w3.I x _ := hx
        obtain ⟨pp, xs, rfl, h1, h2, h3⟩ := hx.tup r3.same
        refine .inr ⟨pp, xs, rfl, hK ▸ h1, fun hwh => ?_, fun _ => want.tup r3 (Nat.le_trans (cutV_length _ _ _) h2) (cut_all _ _ h3)⟩
        have e4 : ∀ {α : Type} (l : List α), l.length = xs.length → cut l y z = l := fun l hl => by
          unfold cut
          rw [hl, hwh.1, hwh.2, List.drop_zero, Nat.sub_zero, ← hl, List.take_length]
        rw [e4 _ h3.length.symm] at want
        exact want.flat r3 hx' trivial
theorem jf_rev {k0 : Nat} {q1 q2 q3 pos : Pos} (ha : JE c X a' a) : JF c X (.Subscript a' (.Slice none none (some (.UnaryOp .USub (.Constant (.int 1) k0 q1) q2)) q3) pos) (.rev a) := by
  obtain ⟨t, p, k⟩ := ha
  refine ⟨_, pe_revL p, fun w m H σ env Q hw hr he hp => ?_⟩
  simp only [evE] at hp
  refine k w m H σ env _ hw hr he (post_bind hp fun v m1 w1 H1 x hv l1 r1 v1 hp1 => ?_)
  cases e1 : dOf v m1 with
  | none => rw [e1] at hp1; exact hp1.elim
  | some dx =>
    rw [e1] at hp1
    have hx := v1.top r1 e1
    cases e3 : revD dx with
    | none => simp only [e3, ofD] at hp1; exact hp1.elim
    | some dd =>
      simp only [e3, ofD] at hp1
      have want : WantD c w1 m1 dd Q := fun w4 H4 zz l4 r4 o4 => hp1 w4 H4 zz l4 r4 o4
      cases dx <;> simp only [revD, reduceCtorEq] at e3
      cases e3
      obtain ⟨pp, xs, rfl, h1, h2, h3⟩ := hx.lst
      exact ⟨pp, xs, rfl, .inl h1, want.lst r1 (by rw [List.length_reverse]; exact h2) h3.reverse⟩
/-! kinds -/
def tyName : Ty → String
  | .int => "int" | .bool => "bool" | .str => "str" | .tuple => "tuple" | .list => "list" | .dict => "dict"
def tyStr : Ty → Str
  | .int => "int" | .bool => "bool" | .str => "str" | .tuple => "tuple" | .list => "list" | .dict => "dict"
theorem tyX_of {K : PySem.W.Frag} {w : Wo} {H : Hp} {x : V} {d : D} (s : Same w.I H) (h : RpT K w H x d) : ∃ n, TyX K H x (.type n) ∧ ∀ T, kitB n (tyName T) = some (isTy d T) := by
  cases d with
  | none => exact ⟨"NoneType", .base (h.non ▸ .non), fun T => by cases T <;> decide +kernel⟩
  | bool b => exact ⟨"bool", .base (h.bool ▸ .bl b), fun T => by cases T <;> (simp only [isTy, tyName]; decide +kernel)⟩
  | int b => exact ⟨"int", .base (h.int ▸ .int b), fun T => by cases T <;> (simp only [isTy, tyName]; decide +kernel)⟩
  | str b => exact ⟨"str", .base (h.str ▸ .str b), fun T => by cases T <;> (simp only [isTy, tyName]; decide +kernel)⟩
  | list l =>
    obtain ⟨p, xs, rfl, h1, h2, h3⟩ := h.lst
    have k : TyX K H (.ref p) (.type "list") := by
      rcases h1 with h1 | ⟨o, h1⟩
      · exact .base (.lst h1)
      · exact .base (.frz h1)
    exact ⟨"list", k, fun T => by cases T <;> (simp only [isTy, tyName]; decide +kernel)⟩
  | tuple l =>
    obtain ⟨p, xs, rfl, h1, h2, h3⟩ := h.tup s
    have k : TyX K H (.ref p) (.type "tuple") := by
      rcases h1 with (h1 | ⟨o, h1⟩) | ⟨o, its, n, h1, h4, _⟩
      · exact .base (.tup h1)
      · exact .fTuple h1
      · exact .kTuple h1 h4
    exact ⟨"tuple", k, fun T => by cases T <;> (simp only [isTy, tyName]; decide +kernel)⟩
  | dict l =>
    obtain ⟨p, ks, rfl, h1, h2⟩ := h
    exact ⟨"dict", .base (.dK h1), fun T => by cases T <;> (simp only [isTy, tyName]; decide +kernel)⟩
end
end Kp
end

section
set_option Elab.async false
set_option linter.all false
set_option maxRecDepth 100000
set_option maxHeartbeats 4000077
/-! D6: which terms of the text are plain; isinstance, built-in functions, methods. -/
namespace Kp
open PySem
open PySem.Spec
open PyProof.Rows
open L2
/-- no star, no slice, no set: a plain term -/
def okx : Expr → Bool
  | .Starred _ _ => false
  | .Slice _ _ _ _ => false
  | .Set _ _ _ => false
  | .SetComp _ _ _ _ => false
  | .DictComp _ _ _ _ _ => false
  | .GeneratorExp _ _ _ _ => false
  | .NamedExpr _ _ _ => false
  | _ => true
theorem star_cons {e : Expr} {r : List Expr} {env : PySem.Env} (h : okx e = true) : starEach (e :: r) env = (false, eval e env) :: starEach r env := by
  cases e <;> first | rfl | exact absurd h Bool.false_ne_true
theorem star_any {env : PySem.Env} {pos : Pos} : ∀ {r : List Expr}, r.all okx = true → (backTo pos (starEach r env)).any (·.1) = false
  | [], _ => rfl
  | e :: r, h => by
    rw [List.all_cons, Bool.and_eq_true] at h
    rw [star_cons h.1]
    show (false || (backTo pos (starEach r env)).any (·.1)) = false
    rw [star_any h.2]; rfl
theorem star_len {env : PySem.Env} {pos : Pos} : ∀ {r : List Expr}, r.all okx = true → (backTo pos (starEach r env)).all (fun x => !x.1) = true
  | [], _ => rfl
  | e :: r, h => by
    rw [List.all_cons, Bool.and_eq_true] at h
    rw [star_cons h.1]
    show (true && (backTo pos (starEach r env)).all (fun x => !x.1)) = true
    rw [star_len h.2]; rfl
theorem plainIx_of {e : Expr} (h : okx e = true) : PlainIx e := fun o i => by
  cases e <;> first | rfl | exact absurd h Bool.false_ne_true
theorem folded_of {e : Expr} {env : PySem.Env} (h : okx e = true) : ∀ x, foldedSetIterable e env x = pure x := fun x => by
  cases e <;> first | rfl | exact absurd h Bool.false_ne_true
theorem marks_of {e : Expr} {op : CmpOp} (h : okx e = true) : behindInMarks op e = false := by
  cases e <;> first | rfl | exact absurd h Bool.false_ne_true
/-- as a test it is what it is as a value -/
def plainT : Expr → Bool
  | .BoolOp _ _ _ => false
  | .UnaryOp .Not _ _ => false
  | .IfExp _ _ _ _ => false
  | .Compare _ [_] _ _ => true
  | .Compare _ _ _ _ => false
  | _ => true
theorem isTrue_of {e : Expr} {env : PySem.Env} (h : plainT e = true) (h2 : okx e = true) (h3 : ∀ a o b p, e ≠ .Compare a o b p) : ∀ whole, isTrue e env whole = (do let v ← whole; standAt e.pos; holding [v] (truthy v)) := fun whole => by
  cases e <;> first | rfl | exact absurd h Bool.false_ne_true | exact absurd h2 Bool.false_ne_true | exact absurd rfl (h3 _ _ _ _) | skip
  rename_i op _ _
  cases op <;> first | rfl | exact absurd h Bool.false_ne_true
section
variable {c : Cfg} {X : Cx} {e' a' b' d' : Expr} {e a b d : E}
/-- the built-in names that are used -/
def bltNames : List Str := ["len", "int", "bool", "str", "tuple", "list", "dict", "sorted", "max", "min", "sum", "abs", "all", "range", "isinstance", "enumerate", "zip", "set", "repr"]
def BltOk (X : Cx) : Prop := ∀ x ∈ bltNames, X.mg x = none
theorem boot_ty (T : Ty) : bootBuiltins (tyStr T) = some (.type (tyName T)) := by cases T <;> decide +kernel
theorem je_isi {T : Ty} {p p2 pos : Pos} (hK : X.K = c.Y.K) (hB : BltOk X) (hg : Gl X "isinstance") (hgT : Gl X (tyStr T)) (ha : JE c X a' a) (ho : okx a' = true) :
    JE c X (.Call (.Name "isinstance" p) [a', .Name (tyStr T) p2] [] pos) (.isi a [T]) := by
  obtain ⟨t, pa, k⟩ := ha
  have hT : X.mg (tyStr T) = none := hB _ (by cases T <;> decide +kernel)
  have pT : PE X (.Name (tyStr T) p2) (tC (.ty (tyName T))) := pe_bltn hgT hT (boot_ty T) rfl (by cases T <;> decide +kernel) (by cases T <;> decide +kernel)
  refine ⟨_, pe_callB call_isi hg (hB _ (by decide +kernel)) (by decide +kernel) (pa_cons pa (pa_cons pT pa_nil) (star_cons ho)) (by decide +kernel) (by decide +kernel) (star_cons ho) (by rfl), fun w m H σ env Q hw hr he hp => ?_⟩
  simp only [evE] at hp
  refine k w m H σ env _ hw hr he (post_bind hp fun v m1 w1 H1 x hv l1 r1 v1 hp1 => ?_)
  cases e1 : dOf v m1 with
  | none => rw [e1] at hp1; exact hp1.elim
  | some dx =>
    rw [e1] at hp1
    obtain ⟨n, ty, kk⟩ := tyX_of r1.same (v1.top r1 e1)
    refine ⟨x, _, _, _, isTy dx T, rfl, .ty (tyName T), hK ▸ ty, kit_ty (kk T), ?_⟩
    simp only [List.any_cons, List.any_nil, Bool.or_false] at hp1
    exact hp1.here r1 (Rp.bl _)
/-- isinstance(a, (T, U)) -/
theorem je_isi2 {T U : Ty} {p p2 p3 pt pos : Pos} {kt : Nat} (hK : X.K = c.Y.K) (hB : BltOk X) (hg : Gl X "isinstance") (hgT : Gl X (tyStr T)) (hgU : Gl X (tyStr U)) (ha : JE c X a' a) (ho : okx a' = true) :
    JE c X (.Call (.Name "isinstance" p) [a', .Tuple [.Name (tyStr T) p2, .Name (tyStr U) p3] kt pt] [] pos) (.isi a [T, U]) := by
  obtain ⟨t, pa, k⟩ := ha
  have hT : X.mg (tyStr T) = none := hB _ (by cases T <;> decide +kernel)
  have hU : X.mg (tyStr U) = none := hB _ (by cases U <;> decide +kernel)
  have pT : PE X (.Name (tyStr T) p2) (tC (.ty (tyName T))) := pe_bltn hgT hT (boot_ty T) rfl (by cases T <;> decide +kernel) (by cases T <;> decide +kernel)
  have pU : PE X (.Name (tyStr U) p3) (tC (.ty (tyName U))) := pe_bltn hgU hU (boot_ty U) rfl (by cases U <;> decide +kernel) (by cases U <;> decide +kernel)
  have pTU : PE X (.Tuple [.Name (tyStr T) p2, .Name (tyStr U) p3] kt pt) _ := pe_tup (pa_cons pT (pa_cons pU pa_nil))
  refine ⟨_, pe_callB call_isiT hg (hB _ (by decide +kernel)) (by decide +kernel) (pa_cons pa (pa_cons pTU pa_nil) (star_cons ho)) (by decide +kernel) (by decide +kernel) (star_cons ho) (by rfl), fun w m H σ env Q hw hr he hp => ?_⟩
  simp only [evE] at hp
  refine k w m H σ env _ hw hr he (post_bind hp fun v m1 w1 H1 x hv l1 r1 v1 hp1 => ?_)
  refine ⟨by show 2 ≤ sizeLine; decide, fun q hq => ?_⟩
  have r2 := r1.new hq (o := .tup [V.ty (tyName T), V.ty (tyName U)]) (.inr ⟨_, rfl⟩)
  cases e1 : dOf v m1 with
  | none => rw [e1] at hp1; exact hp1.elim
  | some dx =>
    rw [e1] at hp1
    obtain ⟨n, ty, kk⟩ := tyX_of r2.same (v1.top r2 e1)
    refine ⟨x, q, _, _, _, isTy dx T || isTy dx U, rfl, upd_same, .cons (.ty _) (.cons (.ty _) .nil), hK ▸ ty, ?_, ?_⟩
    · refine kitAny_cons (kit_ty (kk T)) (fun h => ?_) (fun h => by rw [h]; rfl)
      rw [h, Bool.false_or]
      refine kitAny_cons (kit_ty (kk U)) (fun h => ?_) (fun h => h)
      rw [h]; rfl
    · simp only [List.any_cons, List.any_nil, Bool.or_false] at hp1
      exact hp1.here r2 (Rp.bl _)
/-! built-in functions -/
theorem RVs.top {Y : Wd} {w : Wo} {m : Store} {H : Hp} (r : Rl Y w m H) : ∀ {xs : List V} {vs : List Val} {ds : List D}, RVs Y.K w xs vs → dsOf vs m = some ds → Paired (RpT Y.K w H) xs ds
  | _, _, _, .nil, h => by simp only [dsOf] at h; cases h; exact .nil
  | _, _, _, .cons h1 h2, h => by
    simp only [dsOf] at h
    split at h
    · rename_i x s e1 e2
      cases h
      exact .cons (h1.top r e1) (RVs.top r h2 e2)
    · cases h
/-- a built-in function by its values -/
def BiR (c : Cfg) (X : Cx) (f : Bi) (v : Value) : Prop := ∃ r, CallR X v r ∧ ∀ w m H xs ds d Q, X.K = c.Y.K → Rl c.Y w m H → Paired (RpT c.Y.K w H) xs ds → biD f ds = some d → WantD c w m d Q → r xs H Q
theorem bi_len : BiR c X .len (.builtin "len") := by
  refine ⟨_, call_len_seq.or (call_len_str.or call_lenD), fun w m H xs ds d Q hK r h hd hq => ?_⟩
  cases h with
  | nil => simp only [biD, reduceCtorEq] at hd
  | cons h1 h2 =>
    cases h2 with
    | cons h3 h4 => simp only [biD, reduceCtorEq] at hd
    | nil =>
      rename_i x dx
      simp only [biD, Option.map_eq_some_iff] at hd
      obtain ⟨n, e, rfl⟩ := hd
      have fin : Q (.int n) H := hq.flat r (.int _) trivial
      cases dx <;> simp only [lenD, reduceCtorEq] at e
      · split at e <;> cases e
        rename_i hz
        exact .inr (.inl ⟨_, by rw [h1.str], hz, fin⟩)
      · cases e
        obtain ⟨p, xs, rfl, g1, g2, g3⟩ := h1.lst
        exact .inl ⟨p, xs, rfl, .inl (.inl g1), by rw [g3.length]; exact fin⟩
      · cases e
        obtain ⟨p, xs, rfl, g1, g2, g3⟩ := h1.tup r.same
        exact .inl ⟨p, xs, rfl, .inr (hK ▸ g1), by rw [g3.length]; exact fin⟩
      · cases e
        obtain ⟨p, ks, rfl, g1, g2⟩ := h1
        exact .inr (.inr ⟨p, ks, rfl, g1, by rw [g2.length]; exact fin⟩)
theorem bi_int : BiR c X .int (.type "int") := by
  refine ⟨_, call_int1, fun w m H xs ds d Q hK r h hd hq => ?_⟩
  cases h with
  | nil => simp only [biD, reduceCtorEq] at hd
  | cons h1 h2 =>
    cases h2 with
    | cons h3 h4 => rename_i dx _ _ _ _; cases dx <;> simp only [biD, reduceCtorEq] at hd
    | nil =>
      rename_i x dx
      cases dx <;> simp only [biD, reduceCtorEq] at hd
      · cases hd; exact .inr ⟨_, by rw [h1.bool], hq.flat r (.int _) trivial⟩
      · cases hd; exact .inl ⟨_, by rw [h1.int], hq.flat r (.int _) trivial⟩
theorem bi_tuple : BiR c X .tuple (.type "tuple") := by
  refine ⟨_, call_tuple_of, fun w m H xs ds d Q hK r h hd hq => ?_⟩
  cases h with
  | nil => simp only [biD, reduceCtorEq] at hd
  | cons h1 h2 =>
    cases h2 with
    | cons h3 h4 => rename_i dx _ _ _ _; cases dx <;> simp only [biD, reduceCtorEq] at hd
    | nil =>
      rename_i x dx
      cases dx <;> simp only [biD, reduceCtorEq] at hd
      · cases hd
        obtain ⟨p, xs, rfl, g1, g2, g3⟩ := h1.lst
        exact ⟨p, xs, rfl, .inl ⟨.inl g1, hq.tup r g2 g3⟩⟩
      · cases hd
        have h1' : Rp c.Y.K w.I x _ := h1
        obtain ⟨p, xs, rfl, g1, g2, g3⟩ := h1.tup r.same
        exact ⟨p, xs, rfl, .inr ⟨hK ▸ g1, hq.flat r h1' trivial⟩⟩
theorem bi_list : BiR c X .list (.type "list") := by
  refine ⟨_, call_list_of, fun w m H xs ds d Q hK r h hd hq => ?_⟩
  cases h with
  | nil => simp only [biD, reduceCtorEq] at hd
  | cons h1 h2 =>
    cases h2 with
    | cons h3 h4 => rename_i dx _ _ _ _; cases dx <;> simp only [biD, reduceCtorEq] at hd
    | nil =>
      rename_i x dx
      cases dx <;> simp only [biD, reduceCtorEq] at hd
      · cases hd
        obtain ⟨p, xs, rfl, g1, g2, g3⟩ := h1.lst
        exact ⟨p, xs, rfl, .inl (.inl g1), hq.lst r g2 g3⟩
      · cases hd
        obtain ⟨p, xs, rfl, g1, g2, g3⟩ := h1.tup r.same
        exact ⟨p, xs, rfl, .inr (hK ▸ g1), hq.lst r g2 g3⟩
theorem maxI_of {m : Int} : ∀ {l : List Int} {a : Int}, m ∈ a :: l → (∀ y ∈ a :: l, y ≤ m) → m = maxI a l
  | [], a, h, _ => by simpa [maxI] using h
  | b :: l, a, h, k => by
    show m = maxI (max a b) l
    refine maxI_of (l := l) (a := max a b) ?_ fun y hy => ?_
    · rcases List.mem_cons.mp h with rfl | h
      · have := k b (by simp)
        rw [show max m b = m by omega]
        exact List.mem_cons_self
      · rcases List.mem_cons.mp h with rfl | h
        · have := k a (by simp)
          rw [show max a m = m by omega]
          exact List.mem_cons_self
        · exact List.mem_cons_of_mem _ h
    · rcases List.mem_cons.mp hy with rfl | hy
      · have h1 := k a (by simp)
        have h2 := k b (by simp)
        omega
      · exact k y (by simp [hy])
theorem minI_of {m : Int} : ∀ {l : List Int} {a : Int}, m ∈ a :: l → (∀ y ∈ a :: l, m ≤ y) → m = minI a l
  | [], a, h, _ => by simpa [minI] using h
  | b :: l, a, h, k => by
    show m = minI (min a b) l
    refine minI_of (l := l) (a := min a b) ?_ fun y hy => ?_
    · rcases List.mem_cons.mp h with rfl | h
      · have := k b (by simp)
        rw [show min m b = m by omega]
        exact List.mem_cons_self
      · rcases List.mem_cons.mp h with rfl | h
        · have := k a (by simp)
          rw [show min a m = m by omega]
          exact List.mem_cons_self
        · exact List.mem_cons_of_mem _ h
    · rcases List.mem_cons.mp hy with rfl | hy
      · have h1 := k a (by simp)
        have h2 := k b (by simp)
        omega
      · exact k y (by simp [hy])
theorem bi_max (hc : X.calm = true) : BiR c X .max (.builtin "max") := by
  refine ⟨_, (cr_max hc).or (call_max2 hc), fun w m H xs ds d Q hK r h hd hq => ?_⟩
  cases h with
  | nil => simp only [biD, reduceCtorEq] at hd
  | cons h1 h2 =>
    rename_i x dx xs ds
    cases h2 with
    | cons h3 h4 =>
      rename_i y dy ys dys
      cases h4 with
      | cons h5 h6 => cases dx <;> cases dy <;> simp only [biD, reduceCtorEq] at hd
      | nil =>
        cases dx <;> cases dy <;> simp only [biD, reduceCtorEq] at hd
        rename_i i j
        cases hd
        refine .inr ⟨i, j, by rw [h1.int, h3.int], ?_⟩
        have e : (if j > i then j else i) = max i j := by
          split <;> omega
        rw [e]
        exact hq.flat r (.int _) trivial
    | nil =>
      cases dx <;> simp only [biD, reduceCtorEq] at hd
      rename_i l
      cases l with
      | nil => simp only [biD, reduceCtorEq] at hd
      | cons z l =>
        cases z <;> simp only [biD, reduceCtorEq, Option.map_eq_some_iff] at hd
        rename_i i
        obtain ⟨is, e, rfl⟩ := hd
        obtain ⟨p, xs, rfl, g1, g2, g3⟩ := h1.lst
        have := intsOf_rp g3 (is := i :: is) (by simp only [intsOf, e, Option.map_some])
        subst this
        refine .inl ⟨p, i :: is, rfl, .inl g1, by simp, fun m hm hk => ?_⟩
        rw [maxI_of hm hk]
        exact hq.flat r (.int _) trivial
theorem bi_sum (hc : X.calm = true) : BiR c X .sum (.builtin "sum") := by
  refine ⟨_, cr_sum hc, fun w m H xs ds d Q hK r h hd hq => ?_⟩
  cases h with
  | nil => simp only [biD, reduceCtorEq] at hd
  | cons h1 h2 =>
    cases h2 with
    | cons h3 h4 => rename_i dx _ _ _ _; cases dx <;> simp only [biD, reduceCtorEq] at hd
    | nil =>
      rename_i x dx
      cases dx <;> simp only [biD, reduceCtorEq, Option.map_eq_some_iff] at hd
      obtain ⟨is, e, rfl⟩ := hd
      obtain ⟨p, xs, rfl, g1, g2, g3⟩ := h1.lst
      have := intsOf_rp g3 e
      subst this
      exact ⟨p, is, rfl, .inl g1, hq.flat r (.int _) trivial⟩
theorem bi_abs : BiR c X .abs (.builtin "abs") := by
  refine ⟨_, call_abs, fun w m H xs ds d Q hK r h hd hq => ?_⟩
  cases h with
  | nil => simp only [biD, reduceCtorEq] at hd
  | cons h1 h2 =>
    cases h2 with
    | cons h3 h4 => rename_i dx _ _ _ _; cases dx <;> simp only [biD, reduceCtorEq] at hd
    | nil =>
      rename_i x dx
      cases dx <;> simp only [biD, reduceCtorEq] at hd
      cases hd
      exact ⟨_, by rw [h1.int], hq.flat r (.int _) trivial⟩
theorem boolsOf_rp {K : PySem.W.Frag} {I : Hp} : ∀ {ds : List D} {vs : List V} {is : List Bool}, RpAll K I vs ds → boolsOf ds = some is → vs = is.map V.bl
  | [], _, is, .nil, h => by simp only [boolsOf] at h; cases h; rfl
  | d :: ds, _, is, .cons h1 h2, h => by
    cases d <;> simp only [boolsOf, reduceCtorEq, Option.map_eq_some_iff] at h
    obtain ⟨js, e, rfl⟩ := h
    cases h1
    rw [boolsOf_rp h2 e]; rfl
theorem strsOf_rp {K : PySem.W.Frag} {I : Hp} : ∀ {ds : List D} {vs : List V} {is : List Str}, RpAll K I vs ds → strsOf ds = some is → vs = is.map V.str
  | [], _, is, .nil, h => by simp only [strsOf] at h; cases h; rfl
  | d :: ds, _, is, .cons h1 h2, h => by
    cases d <;> simp only [strsOf, reduceCtorEq, Option.map_eq_some_iff] at h
    obtain ⟨js, e, rfl⟩ := h
    cases h1
    rw [strsOf_rp h2 e]; rfl
theorem bi_all (hc : X.calm = true) : BiR c X .all (.builtin "all") := by
  refine ⟨_, cr_all hc, fun w m H xs ds d Q hK r h hd hq => ?_⟩
  cases h with
  | nil => simp only [biD, reduceCtorEq] at hd
  | cons h1 h2 =>
    cases h2 with
    | cons h3 h4 => rename_i dx _ _ _ _; cases dx <;> simp only [biD, reduceCtorEq] at hd
    | nil =>
      rename_i x dx
      cases dx <;> simp only [biD, reduceCtorEq, Option.map_eq_some_iff] at hd
      obtain ⟨is, e, rfl⟩ := hd
      obtain ⟨p, xs, rfl, g1, g2, g3⟩ := h1.lst
      have := boolsOf_rp g3 e
      subst this
      exact ⟨p, is, rfl, .inl g1, hq.flat r (.bl _) trivial⟩
/-- a call of a built-in function, or of a built-in type -/
theorem jf_bi {f : Bi} {v : Value} {x : Str} {id : String} {e0 : Expr} {r0 : List Expr} {es : List E} {p pos : Pos} (hK : X.K = c.Y.K) (hv : v = .builtin id ∨ v = .type id) (hB : BltOk X) (hg : Gl X x) (hx : x ∈ bltNames) (hn : x ≠ "__name__") (hdb : (x == ("__debug__" : Str)) = false)
    (hboot : bootBuiltins x = some v) (h : BiR c X f v) (ha : JA c X (e0 :: r0) es) (ho : (e0 :: r0).all okx = true) : JF c X (.Call (.Name x p) (e0 :: r0) [] pos) (.bi f es) := by
  obtain ⟨r, hr, kr⟩ := h
  obtain ⟨t, pa, l⟩ := ha
  rw [List.all_cons, Bool.and_eq_true] at ho
  have main : ∀ w m H (σ : L2.St) env Q, c.w0.le w → Rl c.Y w m H → EnvR c.Y.K w env σ → PostG c w (rO c) (evE c.Φ c.G (.bi f es) env m) Q → tCB r t σ H Q := by
    intro w m H σ env Q hw hr he hp
    simp only [evE] at hp
    refine l w m H σ env _ hw hr he (post_bind hp fun vs m1 w1 H1 xs hv l1 r1 v1 hp1 => ?_)
    cases e1 : dsOf vs m1 with
    | none => rw [e1] at hp1; exact hp1.elim
    | some ds =>
      rw [e1] at hp1
      cases e3 : biD f ds with
      | none => simp only [e3, ofD] at hp1; exact hp1.elim
      | some d =>
        simp only [e3, ofD] at hp1
        exact kr w1 m1 H1 xs ds d Q hK r1 (RVs.top r1 v1 e1) e3 fun w3 H3 z l3 r3 o3 => hp1 w3 H3 z l3 r3 o3
  rcases hv with rfl | rfl
  · exact ⟨_, pe_callB hr hg (hB x hx) hboot pa hn hdb (star_cons ho.1) (star_any ho.2), main⟩
  · exact ⟨_, pe_callTy hr hg (hB x hx) hboot pa hn hdb (star_cons ho.1) (star_any ho.2), main⟩
end
end Kp
end

section
set_option Elab.async false
set_option linter.all false
set_option maxRecDepth 100000
set_option maxHeartbeats 4000077
/-! D7: sorted. -/
namespace Kp
open PySem
open PySem.Spec
open PyProof.Rows
open L2
/-- how two tuples compare, told by numbers and texts at their heads -/
inductive LexV : List V → List V → Bool → Prop
  | nil : LexV [] [] false
  | int {i j : Int} {xs ys : List V} : i ≠ j → LexV (.int i :: xs) (.int j :: ys) (decide (i < j))
  | str {i j : Str} {xs ys : List V} : i ≠ j → LexV (.str i :: xs) (.str j :: ys) (decide (i.cps.toList < j.cps.toList))
  | eqI {i : Int} {j k : Int} {xs ys : List V} : j ≠ k → LexV (.int i :: .int j :: xs) (.int i :: .int k :: ys) (decide (j < k))
  | eqII {i j : Int} : LexV [.int i, .int j] [.int i, .int j] false
section
variable {prog : Program} {w : World} {A : Around} {E : Value → Shared → Prop} {s : Shared} {Q : Bool → Shared → Prop}
theorem lex_same {fin : Bool} (h : Q fin s) : ∀ (l : List Value) (i : Nat), PySem.W.KatLex prog w A true fin Q (l.zip l) i s
  | [], i => PySem.W.kat_nil h
  | v :: l, i => PySem.W.kat_cons (SeqAt.EqAt.same v prog w _ _ (PySem.W.kat_yes (lex_same h l (i + 1))))
theorem lex_of {xs ys : List V} {r : Bool} {us vs : List Value} (h : LexV xs ys r) (hu : Vals xs us) (hv : Vals ys vs) (q : Q r s) : PySem.W.KatLex prog w A true (decide (us.length < vs.length)) Q (us.zip vs) 0 s := by
  cases h with
  | nil => cases hu; cases hv; exact PySem.W.kat_nil q
  | @int i j xs ys hne =>
    cases hu with | cons r1 t1 =>
    cases hv with | cons r2 t2 =>
    obtain ⟨t, rfl⟩ := r1
    obtain ⟨t', rfl⟩ := r2
    refine PySem.W.kat_cons (SeqAt.EqAt.int_int i t j t' prog w _ _ ?_)
    rw [show (i == j) = false from beq_eq_false_iff_ne.mpr hne]
    exact PySem.W.kat_no (oneLt_int q)
  | @str i j xs ys hne =>
    cases hu with | cons r1 t1 =>
    cases hv with | cons r2 t2 =>
    obtain ⟨t, rfl⟩ := r1
    obtain ⟨t', rfl⟩ := r2
    refine PySem.W.kat_cons (SeqAt.EqAt.str_str i t j t' prog w _ _ ?_)
    rw [show (i == j) = false from beq_eq_false_iff_ne.mpr hne]
    exact PySem.W.kat_no (oneLt_str q)
  | @eqI i j k xs ys hne =>
    cases hu with | cons r1 t1 =>
    cases t1 with | cons r3 t1 =>
    cases hv with | cons r2 t2 =>
    cases t2 with | cons r4 t2 =>
    obtain ⟨t, rfl⟩ := r1
    obtain ⟨t', rfl⟩ := r2
    obtain ⟨u, rfl⟩ := r3
    obtain ⟨u', rfl⟩ := r4
    refine PySem.W.kat_cons (SeqAt.EqAt.int_int i t i t' prog w _ _ ?_)
    rw [show (i == i) = true from beq_self_eq_true i]
    refine PySem.W.kat_yes (PySem.W.kat_cons (SeqAt.EqAt.int_int j u k u' prog w _ _ ?_))
    rw [show (j == k) = false from beq_eq_false_iff_ne.mpr hne]
    exact PySem.W.kat_no (PySem.W.kat_one _ _ (PyProof.Rows.lt_int q))
  | @eqII i j =>
    cases hu with | cons r1 t1 =>
    cases t1 with | cons r3 t1 =>
    cases t1
    cases hv with | cons r2 t2 =>
    cases t2 with | cons r4 t2 =>
    cases t2
    obtain ⟨t, rfl⟩ := r1
    obtain ⟨t', rfl⟩ := r2
    obtain ⟨u, rfl⟩ := r3
    obtain ⟨u', rfl⟩ := r4
    refine PySem.W.kat_cons (SeqAt.EqAt.int_int i t i t' prog w _ _ ?_)
    rw [show (i == i) = true from beq_self_eq_true i]
    refine PySem.W.kat_yes (PySem.W.kat_cons (SeqAt.EqAt.int_int j u j u' prog w _ _ ?_))
    rw [show (j == j) = true from beq_self_eq_true j]
    exact PySem.W.kat_yes (PySem.W.kat_nil q)
end
/-- the kind of the items' first parts -/
def hdTy : List V → Option String
  | .int _ :: _ => some "int"
  | .str _ :: _ => some "str"
  | _ => none
section
variable {X : Cx}
/-- sorted(xs), xs tuples that lt tells apart by their heads -/
def rSortG (K : PySem.W.Frag) : List V → Hp → VK → Prop := fun vs H Q => ∃ (a : Addr) (xs : List V) (lt : V → V → Bool) (T : String), vs = [.ref a] ∧ SqL K H a xs ∧ SrtO.Swo lt ∧ (T = "int" ∨ T = "str") ∧
  (∀ x ∈ xs, ∃ t ys, x = .ref t ∧ SqT K H t ys ∧ hdTy ys = some T) ∧ (∀ x ∈ xs, ∀ y ∈ xs, x ≠ y → ∃ t u ys zs, x = .ref t ∧ y = .ref u ∧ SqT K H t ys ∧ SqT K H u zs ∧ LexV ys zs (lt x y)) ∧
  ∀ ys p, (∀ t us vs, SqT K H t us → SqT K H t vs → us = vs) → ys.Perm xs → ys.Pairwise (fun x y => lt y x = false) → H p = none → Q (.ref p) (upd H p (.lst ys))
theorem kat_tups_of {h : Heap} {T : String} : ∀ {us : List Value}, (∀ u ∈ us, ∃ a o its n f, u = .ref a ∧ h.get? a = some o ∧ o.cls = .type "tuple" ∧ o.data = .seq its n ∧ its[0]? = some f ∧ ((T = "int" ∧ ∃ i t, f = .int i t) ∨ (T = "str" ∧ ∃ i t, f = .str i t))) →
    ∃ fs, PySem.W.KatTups h us fs ∧ fs.length = us.length ∧ ∀ f ∈ fs, (T = "int" ∧ ∃ i t, f = .int i t) ∨ (T = "str" ∧ ∃ i t, f = .str i t)
  | [], _ => ⟨[], .nil, rfl, fun f hf => absurd hf (by simp)⟩
  | u :: us, k => by
    obtain ⟨a, o, its, n, f, rfl, h1, h2, h3, h4, h5⟩ := k u (by simp)
    obtain ⟨fs, g1, g2, g3⟩ := kat_tups_of (us := us) fun v hv => k v (List.mem_cons_of_mem _ hv)
    refine ⟨f :: fs, .cons h1 h2 h3 h4 g1, by simp [g2], fun f' hf => ?_⟩
    rcases List.mem_cons.mp hf with rfl | hf
    · exact h5
    · exact g3 f' hf
theorem swo_comap {α β : Type} {lt : β → β → Bool} (O : SrtO.Swo lt) (f : α → β) : SrtO.Swo (fun x y => lt (f x) (f y)) := ⟨fun x y h => O.asym _ _ h, fun x y z h1 h2 => O.tr _ _ _ h1 h2⟩
theorem cr_sortG : CallR X (.builtin "sorted") (rSortG X.K) := by
  intro pins s σ H vs us Q I r h
  obtain ⟨a, xs, lt, T, rfl, hs, O, hT, hx, hl, q⟩ := h
  obtain ⟨its, rv, hli, hz⟩ := I.list hs
  rw [Vals.ref1 r]
  obtain ⟨e1, e2⟩ := refs_back rv fun x m => by
    obtain ⟨t, ys, e, _⟩ := hx x m
    exact ⟨t, e⟩
  -- each item's object
  have ob : ∀ u ∈ its, ∃ a ys vs, u = .ref a ∧ backV u ∈ xs ∧ backV u = .ref a ∧ SqT X.K H a ys ∧ Vals ys vs ∧ IsTup s.heap a vs.toArray ∧ hdTy ys = some T := fun u hu => by
    obtain ⟨b, rfl⟩ := e2 u hu
    have hm : backV (Value.ref b) ∈ xs := by rw [e1]; exact List.mem_map.mpr ⟨_, hu, rfl⟩
    obtain ⟨t, ys, e, h1, h2⟩ := hx _ hm
    cases e
    obtain ⟨vs, h3, h4, _⟩ := I.tuple h1
    exact ⟨b, ys, vs, rfl, hm, rfl, h1, h3, h4, h2⟩
  refine SrtO.sorted_ord (ltv := fun u v => lt (backV u) (backV v)) (swo_comap O backV) hli.isList (by rw [← rv.length]; exact hz) (fun h2 h₁ a' ha' keep => ?_) fun out h1 h2 => ?_
  · intro h' keep'
    have ob' : ∀ u ∈ its, ∃ a ys vs, u = .ref a ∧ backV u ∈ xs ∧ backV u = .ref a ∧ SqT X.K H a ys ∧ Vals ys vs ∧ IsTup h' a vs.toArray ∧ hdTy ys = some T := fun u hu => by
      obtain ⟨b, ys, vs, g1, g2, g3, g4, g5, ⟨o, g6, g7⟩, g8⟩ := ob u hu
      obtain ⟨k1, k2⟩ := keep b o g6
      exact ⟨b, ys, vs, g1, g2, g3, g4, g5, ⟨o, keep' b o k1 k2, g7⟩, g8⟩
    refine ⟨tuples' true, fun Q E hq => ?_, fun p q hp hq => ?_⟩
    · obtain ⟨fs, k1, k2, k3⟩ := kat_tups_of (h := h') (T := T) (us := its) fun u hu => by
        obtain ⟨b, ys, vs, g1, g2, g3, g4, g5, ⟨o, g6, g7, n, g9⟩, g8⟩ := ob' u hu
        cases g5 with
        | nil => simp [hdTy] at g8
        | @cons x u0 xs' us' rr tt =>
          refine ⟨b, o, _, n, u0, g1, g6, g7, g9, by simp, ?_⟩
          cases x <;> simp only [hdTy, reduceCtorEq, Option.some.injEq] at g8
          · obtain ⟨t, rfl⟩ := rr
            exact .inl ⟨g8.symm, _, t, rfl⟩
          · obtain ⟨t, rfl⟩ := rr
            exact .inr ⟨g8.symm, _, t, rfl⟩
      have hT' : (Value.type T != Value.type "tuple") = true := by rcases hT with rfl | rfl <;> decide +kernel
      refine PySem.W.kat_kind (T := .type T) k1 (by omega) (fun f hf => ?_) (by rcases hT with rfl | rfl <;> rfl) (by rw [hT']; exact hq)
      rcases k3 f hf with ⟨rfl, i, t, rfl⟩ | ⟨rfl, i, t, rfl⟩
      · exact PySem.W.Looks.now
      · exact PySem.W.Looks.now
    · have hp : p.1 ∈ its := hp
      have hq : q.1 ∈ its := hq
      show wpAny (model X.prog X.w) _ (keyLt' (tuples' true) p.1 q.1) (fun r s' => s' = _ ∧ r = lt (backV p.1) (backV q.1)) (fun _ _ => False) _
      obtain ⟨b, ys, vs, g1, g2, g3, g4, g5, ⟨o, g6, g7, n, g9⟩, g8⟩ := ob' p.1 hp
      obtain ⟨b', ys', vs', f1, f2, f3, f4, f5, ⟨o', f6, f7, n', f9⟩, f8⟩ := ob' q.1 hq
      rw [g1, f1]
      refine PySem.W.kat_lt g6 g9 f6 f9 ?_
      simp only [List.size_toArray]
      by_cases hbb : b = b'
      · subst hbb
        rw [g6] at f6
        cases f6
        rw [g9] at f9
        injection f9 with f9 _
        have f9 : vs = vs' := by simpa using congrArg Array.toList f9
        subst f9
        refine lex_same ⟨rfl, ?_⟩ vs 0
        rw [O.refl]
        simp
      · have hne : backV (Value.ref b) ≠ backV (Value.ref b') := fun e => hbb (by simpa [backV] using e)
        rw [g1] at g2
        rw [f1] at f2
        obtain ⟨t2, u2, y2, z2, k1, k2, k3, k4, k5⟩ := hl _ g2 _ f2 hne
        cases k1
        cases k2
        rw [I.tuple_inj k3 g4, I.tuple_inj k4 f4] at k5
        exact lex_of k5 g5 f5 ⟨rfl, rfl⟩
  · obtain ⟨ep, he'⟩ := PyProof.Rows.sortedAll_at s.heap its out.toArray
    have h3 : ∀ u ∈ out, ∃ a, u = Value.ref a := fun u hu => e2 u (h2.perm.mem_iff.mp hu)
    have hb : (out.map backV).Perm xs := by
      rw [e1]
      exact h2.perm.map backV
    have hlen : (out.map backV).length ≤ sizeLine := by rw [hb.length_eq]; exact hz
    refine ⟨.ref _, upd H (s.heap.objs.size + 1) (.lst (out.map backV)), I.laid (t' := s.toks) (fun _ _ => PyProof.Rows.sortedAll_old) (Nat.le_succ _) ⟨hlen, out, ep, vals_back h3, he'⟩, rfl, q _ _ (fun t us vs k1 k2 => I.tuple_inj k1 k2) hb ?_ (I.hok.fresh (Nat.le_succ _))⟩
    exact List.pairwise_map.mpr h1
end
/-! ### by the data -/
inductive All2 {α β : Type} (R : α → β → Prop) : List α → List β → Prop
  | nil : All2 R [] []
  | cons {a b l k} : R a b → All2 R l k → All2 R (a :: l) (b :: k)
theorem All2.perm {α β : Type} {R : α → β → Prop} {l' l : List α} (p : l'.Perm l) : ∀ {k : List β}, All2 R l k → ∃ k', k'.Perm k ∧ All2 R l' k' := by
  induction p with
  | nil => intro k h; cases h; exact ⟨[], .refl _, .nil⟩
  | cons x _ ih =>
    intro k h
    cases h with
    | cons h1 h2 =>
      obtain ⟨k', p', r⟩ := ih h2
      exact ⟨_ :: k', p'.cons _, .cons h1 r⟩
  | swap x y l =>
    intro k h
    cases h with
    | cons h1 h2 =>
      cases h2 with
      | cons h3 h4 => exact ⟨_ :: _ :: _, .swap _ _ _, .cons h3 (.cons h1 h4)⟩
  | trans _ _ ih1 ih2 =>
    intro k h
    obtain ⟨k1, p1, r1⟩ := ih2 h
    obtain ⟨k2, p2, r2⟩ := ih1 r1
    exact ⟨k2, p2.trans p1, r2⟩
theorem All2.pairwise {α β : Type} {R : α → β → Prop} {P : α → α → Prop} {S : β → β → Prop} {l : List α} {k : List β} (h : All2 R l k) (f : ∀ a b c d, R a b → R c d → P a c → S b d) (p : l.Pairwise P) : k.Pairwise S := by
  induction h with
  | nil => exact .nil
  | @cons a b l k r t ih =>
    rw [List.pairwise_cons] at p ⊢
    refine ⟨fun d hd => ?_, ih p.2⟩
    have mem : ∀ {l : List α} {k : List β}, All2 R l k → ∀ d ∈ k, ∃ c ∈ l, R c d := by
      intro l k h
      induction h with
      | nil => intro d hd; cases hd
      | cons r t ih =>
        intro d hd
        rcases List.mem_cons.mp hd with rfl | hd
        · exact ⟨_, List.mem_cons_self, r⟩
        · obtain ⟨c, h1, h2⟩ := ih d hd
          exact ⟨c, List.mem_cons_of_mem _ h1, h2⟩
    obtain ⟨c, hc, rc⟩ := mem t d hd
    exact f _ _ _ _ r rc (p.1 c hc)
theorem All2.of {K : PySem.W.Frag} {I : Hp} {R : V → D → Prop} : ∀ {xs : List V} {l : List D}, RpAll K I xs l → (∀ (i : Nat) x d, xs[i]? = some x → l[i]? = some d → Rp K I x d → R x d) → All2 R xs l
  | _, _, .nil, _ => .nil
  | _, _, .cons h t, k => .cons (k 0 _ _ rfl rfl h) (All2.of t fun i x d e1 e2 => k (i + 1) x d (by simpa using e1) (by simpa using e2))
theorem All2.rp {K : PySem.W.Frag} {I : Hp} {R : V → D → Prop} {xs : List V} {l : List D} (h : All2 R xs l) (f : ∀ x d, R x d → Rp K I x d) : RpAll K I xs l := by
  induction h with
  | nil => exact .nil
  | cons r _ ih => exact .cons (f _ _ r) ih
/-- a list sorted by a total key -/
theorem sort_uniq {l l' : List D} {le : D → D → Bool} (tr : ∀ a b c, le a b = true → le b c = true → le a c = true) (tot : ∀ a b, (le a b || le b a) = true) (anti : ∀ a ∈ l, ∀ b ∈ l, le a b = true → le b a = true → a = b)
    (p : l'.Perm l) (s : l'.Pairwise (fun a b => le a b = true)) : l' = l.mergeSort le :=
  List.Perm.eq_of_pairwise (le := fun a b => le a b = true) (fun a b ha hb h1 h2 => anti a (p.mem_iff.mp ha) b ((List.mergeSort_perm l le).mem_iff.mp hb) h1 h2) s (List.pairwise_mergeSort tr tot l) (p.trans (List.mergeSort_perm l le).symm)
/-- in a list whose items have their keys at i, the key of an item -/
def keyAt {κ : Type} (xs : List V) (ks : List κ) (d : κ) (x : V) : κ := ks.getD (xs.idxOf x) d
section
variable {c : Cfg} {X : Cx}
/-- one rule for the three: the head of each tuple tells its key -/
theorem sort_by {κ : Type} {T : String} {Form : D → List V → Prop} {key : D → κ} {dk : κ} {ltk : κ → κ → Bool} {le : D → D → Bool} {w : Wo} {m : Store} {H : Hp} {a : Addr} {xs : List V} {l : List D} {Q : VK} (hK : X.K = c.Y.K) (r : Rl c.Y w m H) (hT : T = "int" ∨ T = "str")
    (g1 : Rd H a (.lst xs)) (g2 : xs.length ≤ sizeLine) (g3 : RpAll c.Y.K w.I xs l) (swo : SrtO.Swo ltk)
    (hdet : ∀ d d' ys, Form d ys → Form d' ys → key d = key d')
    (hform : ∀ x d, d ∈ l → Rp c.Y.K w.I x d → ∃ t ys, x = .ref t ∧ SqT c.Y.K w.I t ys ∧ Form d ys ∧ hdTy ys = some T)
    (hlex : ∀ (i j : Nat) d d' ys zs, i ≠ j → l[i]? = some d → l[j]? = some d' → Form d ys → Form d' zs → LexV ys zs (ltk (key d) (key d')))
    (hle : ∀ d d', le d d' = !ltk (key d') (key d)) (anti : ∀ d ∈ l, ∀ d' ∈ l, le d d' = true → le d' d = true → d = d')
    (hq : WantD c w m (.list (l.mergeSort le)) Q) : rSortG X.K [.ref a] H Q := by
  have hlen := g3.length
  -- the key of a value is that of the data at its first place
  have at_ : ∀ x ∈ xs, ∃ d, xs[xs.idxOf x]? = some x ∧ l[xs.idxOf x]? = some d ∧ Rp c.Y.K w.I x d ∧ keyAt xs (l.map key) dk x = key d := fun x hx => by
    have hi : xs.idxOf x < xs.length := List.idxOf_lt_length_iff.mpr hx
    have hx' : xs[xs.idxOf x]? = some x := by rw [List.getElem?_eq_getElem hi, List.getElem_idxOf hi]
    obtain ⟨d, h1, h2⟩ := g3.getV hx'
    refine ⟨d, hx', h1, h2, ?_⟩
    unfold keyAt
    rw [List.getD_eq_getElem?_getD, List.getElem?_map, h1]
    rfl
  refine ⟨a, xs, fun x y => ltk (keyAt xs (l.map key) dk x) (keyAt xs (l.map key) dk y), T, rfl, .inl g1, swo_comap swo _, hT, fun x hx => ?_, fun x hx y hy hne => ?_, fun ys p det hp hs hn => ?_⟩
  · obtain ⟨d, h1, h2, h3, h4⟩ := at_ x hx
    obtain ⟨t, ys, e, h5, h6, h7⟩ := hform x d (List.mem_of_getElem? h2) h3
    exact ⟨t, _, e, hK ▸ seqT_mono r.same h5, h7⟩
  · obtain ⟨d, h1, h2, h3, h4⟩ := at_ x hx
    obtain ⟨t, ys, e, h5, h6, h7⟩ := hform x d (List.mem_of_getElem? h2) h3
    obtain ⟨d', k1, k2, k3, k4⟩ := at_ y hy
    obtain ⟨t', ys', e', k5, k6, k7⟩ := hform y d' (List.mem_of_getElem? k2) k3
    refine ⟨t, t', ys, ys', e, e', hK ▸ seqT_mono r.same h5, hK ▸ seqT_mono r.same k5, ?_⟩
    show LexV ys ys' (ltk (keyAt xs (l.map key) dk x) (keyAt xs (l.map key) dk y))
    rw [h4, k4]
    refine hlex _ _ d d' ys ys' (fun q => hne ?_) h2 k2 h6 k6
    rw [← q, h1] at k1
    exact Option.some.inj k1
  · -- the new list, as data
    have al : All2 (fun x d => Rp c.Y.K w.I x d ∧ keyAt xs (l.map key) dk x = key d) xs l := All2.of g3 fun i x d e1 e2 h => by
      refine ⟨h, ?_⟩
      obtain ⟨d', h1, h2, h3, h4⟩ := at_ x (List.mem_of_getElem? e1)
      obtain ⟨t, zs, e, h5, h6, h7⟩ := hform x d (List.mem_of_getElem? e2) h
      obtain ⟨t', zs', e', h5', h6', h7'⟩ := hform x d' (List.mem_of_getElem? h2) h3
      rw [e] at e'
      cases e'
      have := det t zs zs' (hK ▸ seqT_mono r.same h5) (hK ▸ seqT_mono r.same h5')
      subst this
      rw [h4]
      exact hdet d' d zs h6' h6
    obtain ⟨l', p', al'⟩ := All2.perm hp al
    have hs' : l'.Pairwise (fun a b => le a b = true) := al'.pairwise (fun x d y d' h1 h2 h3 => by
      have h3 : ltk (keyAt xs (l.map key) dk y) (keyAt xs (l.map key) dk x) = false := h3
      rw [hle, ← h1.2, ← h2.2, h3]; rfl) hs
    have e : l' = l.mergeSort le := by
      refine sort_uniq (fun a b d h1 h2 => ?_) (fun a b => ?_) anti p' hs'
      · rw [hle] at h1 h2 ⊢
        have h1 : ltk (key b) (key a) = false := by simpa using h1
        have h2 : ltk (key d) (key b) = false := by simpa using h2
        rw [swo.tr _ _ _ h1 h2]; rfl
      · rw [hle, hle]
        cases q : ltk (key b) (key a) with
        | false => rfl
        | true => rw [swo.asym _ _ q]; rfl
    rw [← e] at hq
    exact hq.lst r (by rw [hp.length_eq]; exact g2) (al'.rp fun x d h => h.1) p hn
theorem swo_int : SrtO.Swo (fun i j : Int => decide (i < j)) := ⟨fun x y h => by simp at h ⊢; omega, fun x y z h1 h2 => by simp at h1 h2 ⊢; omega⟩
theorem swo_nats : SrtO.Swo (fun i j : List Nat => decide (i < j)) := ⟨fun x y h => by
  simp only [decide_eq_true_eq, decide_eq_false_iff_not] at h ⊢
  exact List.lt_asymm h, fun x y z h1 h2 => by
  simp only [decide_eq_false_iff_not] at h1 h2 ⊢
  exact List.not_lt.mpr (List.le_trans (List.not_lt.mp h1) (List.not_lt.mp h2))⟩
theorem firstsI_all : ∀ {l : List D} {is : List Int}, firstsI l = some is → is = l.map keyI ∧ ∀ d ∈ l, ∃ i r, d = .tuple (.int i :: r)
  | [], is, h => by simp only [firstsI] at h; cases h; exact ⟨rfl, fun d hd => by cases hd⟩
  | d :: l, is, h => by
    unfold firstsI at h
    split at h
    · cases ‹_ :: _ = []›
    · rename_i i r l' e
      cases e
      simp only [Option.map_eq_some_iff] at h
      obtain ⟨js, e, rfl⟩ := h
      obtain ⟨h1, h2⟩ := firstsI_all e
      refine ⟨by rw [List.map_cons, h1]; rfl, fun d hd => ?_⟩
      rcases List.mem_cons.mp hd with rfl | hd
      · exact ⟨i, r, rfl⟩
      · exact h2 d hd
    · cases h
theorem firstsS_all : ∀ {l : List D} {is : List Str}, firstsS l = some is → is.map (fun s => s.cps.toList) = l.map keyS ∧ ∀ d ∈ l, ∃ i r, d = .tuple (.str i :: r)
  | [], is, h => by simp only [firstsS] at h; cases h; exact ⟨rfl, fun d hd => by cases hd⟩
  | d :: l, is, h => by
    unfold firstsS at h
    split at h
    · cases ‹_ :: _ = []›
    · rename_i i r l' e
      cases e
      simp only [Option.map_eq_some_iff] at h
      obtain ⟨js, e, rfl⟩ := h
      obtain ⟨h1, h2⟩ := firstsS_all e
      refine ⟨by rw [List.map_cons, List.map_cons, h1]; rfl, fun d hd => ?_⟩
      rcases List.mem_cons.mp hd with rfl | hd
      · exact ⟨i, r, rfl⟩
      · exact h2 d hd
    · cases h
theorem nodup_map_ne {α β : Type} {f : α → β} {l : List α} (h : (l.map f).Nodup) {i j : Nat} {a b : α} (ha : l[i]? = some a) (hb : l[j]? = some b) (hne : i ≠ j) : f a ≠ f b := fun e => by
  refine hne (nodup_get h (x := f a) ?_ ?_)
  · rw [List.getElem?_map, ha]; rfl
  · rw [List.getElem?_map, hb, e]; rfl
theorem nodup_map_inj {α β : Type} {f : α → β} {l : List α} (h : (l.map f).Nodup) {a b : α} (ha : a ∈ l) (hb : b ∈ l) (e : f a = f b) : a = b := by
  obtain ⟨i, hi⟩ := List.getElem?_of_mem ha
  obtain ⟨j, hj⟩ := List.getElem?_of_mem hb
  by_cases hij : i = j
  · subst hij
    rw [hi] at hj
    exact Option.some.inj hj
  · exact absurd e (nodup_map_ne h hi hj hij)
theorem str_ext {a b : Str} (h : a.cps.toList = b.cps.toList) : a = b := by
  cases a; cases b
  congr
  exact Array.toList_inj.mp h
theorem swo_lexIJ : SrtO.Swo (fun p q : Int × Int => decide (p.1 < q.1 ∨ p.1 = q.1 ∧ p.2 < q.2)) := ⟨fun x y h => by simp at h ⊢; omega, fun x y z h1 h2 => by simp at h1 h2 ⊢; omega⟩
/-- texts, rising -/
theorem risingS_pw : ∀ {ys : List Str} {p : Str}, risingS p ys = true → (p :: ys).Pairwise (fun a b => leStr a b = true)
  | [], p, _ => List.pairwise_singleton _ _
  | x :: r, p, h => by
    have h : (!ltCps x.cps.toList p.cps.toList) = true ∧ risingS x r = true := by simpa [risingS] using h
    have ih := risingS_pw h.2
    have h1 : leStr p x = true := by
      unfold leStr
      rw [← ltCps_eq]
      exact h.1
    rw [List.pairwise_cons]
    refine ⟨fun b hb => ?_, ih⟩
    rcases List.mem_cons.mp hb with rfl | hb
    · exact h1
    · have h2 := (List.pairwise_cons.mp ih).1 b hb
      simp only [leStr, Bool.not_eq_true', decide_eq_false_iff_not] at h1 h2 ⊢
      exact List.not_lt.mpr (List.le_trans (List.not_lt.mp h1) (List.not_lt.mp h2))
theorem sortedS_pw : ∀ {ys : List Str}, sortedS ys = true → ys.Pairwise (fun a b => leStr a b = true)
  | [], _ => .nil
  | x :: r, h => risingS_pw h
theorem bi_sorted : BiR c X .sorted (.builtin "sorted") := by
  refine ⟨_, cr_sortedI.or (cr_sortedS.or cr_sortG), fun w m H xs ds d Q hK r h hd hq => ?_⟩
  cases h with
  | nil => simp only [biD, reduceCtorEq] at hd
  | cons h1 h2 =>
    cases h2 with
    | cons h3 h4 => rename_i dx _ _ _ _; cases dx <;> simp only [biD, reduceCtorEq] at hd
    | nil =>
      rename_i x dx
      cases dx <;> simp only [biD, reduceCtorEq, Option.map_eq_some_iff] at hd
      rename_i l
      obtain ⟨out, e, rfl⟩ := hd
      obtain ⟨a, xs, rfl, g1, g2, g3⟩ := h1.lst
      unfold sortD at e
      split at e
      · -- numbers
        rename_i is ei
        cases e
        have := intsOf_rp g3 ei
        subst this
        refine .inl ⟨a, is, rfl, .inl g1, fun ns' p hp hs hn => ?_⟩
        have eq : ns' = is.mergeSort (fun a b => decide (a ≤ b)) := by
          refine List.Perm.eq_of_pairwise (le := (· ≤ ·)) (fun a b _ _ h1 h2 => Int.le_antisymm h1 h2) hs ?_ (hp.trans (List.mergeSort_perm is _).symm)
          have := List.pairwise_mergeSort (le := fun a b : Int => decide (a ≤ b)) (fun a b c h1 h2 => by simp at h1 h2 ⊢; omega) (fun a b => by simp; omega) is
          exact this.imp fun h => by simpa using h
        rw [← eq] at hq
        refine hq.lst r (by rw [List.length_map, hp.length_eq]; simpa using g2) ?_ p hn
        clear eq hs hp hn hq
        induction ns' with
        | nil => exact .nil
        | cons i ns' ih => exact .cons (.int i) ih
      · rename_i ei
        split at e
        · -- texts
          rename_i ss es
          split at e <;> cases e
          rename_i h64
          have := strsOf_rp g3 es
          subst this
          refine .inr (.inl ⟨a, ss, rfl, .inl g1, by rw [← g3.length, List.length_map] at h64; exact h64, fun ys p hp hs hn => ?_⟩)
          have eq : ys = ss.mergeSort leStr := by
            refine List.Perm.eq_of_pairwise (le := fun a b => leStr a b = true) (fun a b _ _ h1 h2 => ?_) (sortedS_pw hs) ?_ (hp.trans (List.mergeSort_perm ss _).symm)
            · simp only [leStr, Bool.not_eq_true', decide_eq_false_iff_not] at h1 h2
              exact str_ext (List.le_antisymm (List.not_lt.mp h1) (List.not_lt.mp h2))
            · refine List.pairwise_mergeSort (fun a b c h1 h2 => ?_) (fun a b => ?_) ss
              · simp only [leStr, Bool.not_eq_true', decide_eq_false_iff_not] at h1 h2 ⊢
                exact List.not_lt.mpr (List.le_trans (List.not_lt.mp h1) (List.not_lt.mp h2))
              · simp only [leStr, Bool.or_eq_true, Bool.not_eq_true', decide_eq_false_iff_not]
                rcases List.le_total a.cps.toList b.cps.toList with h | h
                · exact .inl (List.not_lt.mpr h)
                · exact .inr (List.not_lt.mpr h)
          rw [← eq] at hq
          refine hq.lst r (by rw [List.length_map, hp.length_eq]; simpa using g2) ?_ p hn
          clear eq hs hp hn hq
          induction ys with
          | nil => exact .nil
          | cons i ns' ih => exact .cons (.str i) ih
        · split at e
          · -- pairs of numbers
            rename_i hall
            cases e
            have hp : ∀ d ∈ l, ∃ i j, d = .tuple [.int i, .int j] := fun d hd => by
              have := List.all_eq_true.mp hall d hd
              unfold intPair at this
              split at this
              · exact ⟨_, _, rfl⟩
              · exact absurd this Bool.false_ne_true
            refine .inr (.inr (sort_by (c := c) (T := "int") (Form := fun d ys => ys = [.int (keyI d), .int (keyJ d)]) (key := fun d => (keyI d, keyJ d)) (dk := (0, 0)) hK r (.inl rfl) g1 g2 g3 swo_lexIJ (fun d d' ys h1 h2 => ?_) (fun x d hd hx => ?_) (fun i j d d' ys zs _ _ _ h1 h2 => ?_) (fun d d' => ?_) (fun d hd d' hd' h1 h2 => ?_) hq))
            · rw [h1] at h2
              simp only [List.cons.injEq, V.int.injEq, and_true] at h2
              exact Prod.ext h2.1 h2.2
            · obtain ⟨i, j, rfl⟩ := hp d hd
              cases hx with
              | tup k1 k2 k3 =>
                refine ⟨_, _, rfl, k1, ?_, ?_⟩
                all_goals
                  cases k3 with | cons z1 k3 => ?_
                  cases k3 with | cons z2 k3 => ?_
                  cases k3
                  cases z1
                  cases z2
                  rfl
            · subst h1 h2
              by_cases e1 : keyI d = keyI d'
              · by_cases e2 : keyJ d = keyJ d'
                · rw [e1, e2]
                  have : decide ((keyI d', keyJ d').1 < (keyI d', keyJ d').1 ∨ (keyI d', keyJ d').1 = (keyI d', keyJ d').1 ∧ (keyI d', keyJ d').2 < (keyI d', keyJ d').2) = false := by simp
                  rw [this]
                  exact .eqII
                · rw [e1]
                  have : decide ((keyI d', keyJ d).1 < (keyI d', keyJ d').1 ∨ (keyI d', keyJ d).1 = (keyI d', keyJ d').1 ∧ (keyI d', keyJ d).2 < (keyI d', keyJ d').2) = decide (keyJ d < keyJ d') := by simp
                  rw [this]
                  exact .eqI e2
              · have : decide ((keyI d, keyJ d).1 < (keyI d', keyJ d').1 ∨ (keyI d, keyJ d).1 = (keyI d', keyJ d').1 ∧ (keyI d, keyJ d).2 < (keyI d', keyJ d').2) = decide (keyI d < keyI d') := by simp [e1]
                rw [this]
                exact .int e1
            · unfold leIJ
              rw [← decide_not]
              congr 1
              simp only [eq_iff_iff]
              omega
            · obtain ⟨i, j, rfl⟩ := hp d hd
              obtain ⟨i', j', rfl⟩ := hp d' hd'
              have h1 : i < i' ∨ i = i' ∧ j ≤ j' := of_decide_eq_true h1
              have h2 : i' < i ∨ i' = i ∧ j' ≤ j := of_decide_eq_true h2
              have e1 : i = i' := by omega
              have e2 : j = j' := by omega
              rw [e1, e2]
          · split at e
            · -- first numbers
              rename_i is ef
              split at e <;> cases e
              rename_i hnd
              obtain ⟨f1, f2⟩ := firstsI_all ef
              have nd : (l.map keyI).Nodup := f1 ▸ hnd
              refine .inr (.inr (sort_by (c := c) (T := "int") (Form := fun d ys => ∃ r, ys = .int (keyI d) :: r) (key := keyI) (dk := 0) hK r (.inl rfl) g1 g2 g3 swo_int (fun d d' ys h1 h2 => ?_) (fun x d hd hx => ?_) (fun i j d d' ys zs hij e1 e2 h1 h2 => ?_) (fun d d' => ?_) (fun d hd d' hd' h1 h2 => ?_) hq))
              · obtain ⟨r1, h1⟩ := h1
                obtain ⟨r2, h2⟩ := h2
                rw [h1] at h2
                injection h2 with h2 _
                injection h2
              · obtain ⟨i, rr, rfl⟩ := f2 d hd
                cases hx with
                | tup k1 k2 k3 =>
                  cases k3 with | cons z1 k3 => ?_
                  cases z1
                  exact ⟨_, _, rfl, k1, ⟨_, rfl⟩, rfl⟩
              · obtain ⟨r1, rfl⟩ := h1
                obtain ⟨r2, rfl⟩ := h2
                exact .int (nodup_map_ne nd e1 e2 hij)
              · unfold leI
                rw [← decide_not]
                congr 1
                simp only [eq_iff_iff]
                omega
              · simp only [leI, decide_eq_true_eq] at h1 h2
                exact nodup_map_inj nd hd hd' (by omega)
            · split at e
              · rename_i ss ef
                split at e <;> cases e
                rename_i hnd
                obtain ⟨f1, f2⟩ := firstsS_all ef
                have nd : (l.map keyS).Nodup := by
                  rw [← f1]
                  exact List.Pairwise.map _ (fun _ _ h e => h (str_ext e)) hnd
                refine .inr (.inr (sort_by (c := c) (T := "str") (Form := fun d ys => ∃ s r, ys = .str s :: r ∧ s.cps.toList = keyS d) (key := keyS) (dk := []) hK r (.inr rfl) g1 g2 g3 swo_nats (fun d d' ys h1 h2 => ?_) (fun x d hd hx => ?_) (fun i j d d' ys zs hij e1 e2 h1 h2 => ?_) (fun d d' => rfl) (fun d hd d' hd' h1 h2 => ?_) hq))
                · obtain ⟨s1, r1, h1, k1⟩ := h1
                  obtain ⟨s2, r2, h2, k2⟩ := h2
                  rw [h1] at h2
                  injection h2 with h2 _
                  injection h2 with h2
                  rw [← k1, ← k2, h2]
                · obtain ⟨i, rr, rfl⟩ := f2 d hd
                  cases hx with
                  | tup k1 k2 k3 =>
                    cases k3 with | cons z1 k3 => ?_
                    cases z1
                    exact ⟨_, _, rfl, k1, ⟨_, _, rfl, rfl⟩, rfl⟩
                · obtain ⟨s1, r1, rfl, k1⟩ := h1
                  obtain ⟨s2, r2, rfl, k2⟩ := h2
                  rw [← k1, ← k2]
                  refine .str fun q => nodup_map_ne nd e1 e2 hij ?_
                  rw [← k1, ← k2, q]
                · simp only [leS, Bool.not_eq_true', decide_eq_false_iff_not] at h1 h2
                  exact nodup_map_inj nd hd hd' (List.le_antisymm (List.not_lt.mp h1) (List.not_lt.mp h2))
              · cases e
end
end Kp
end

section
set_option Elab.async false
set_option linter.all false
set_option maxRecDepth 100000
set_option maxHeartbeats 4000077
/-! D8: targets, what is walked, list comprehensions. -/
namespace Kp
open PySem
open PySem.Spec
open PyProof.Rows
open L2
section
variable {c : Cfg} {X : Cx} {e' a' b' d' : Expr} {e a b d : E}
/-! targets -/
def JG (c : Cfg) (X : Cx) (t' : Expr) (tg : Tg) : Prop := ∃ g : TG, PG X t' g ∧ ∀ w m H (σ : L2.St) env env' x d Q, Rl c.Y w m H → EnvR c.Y.K w env σ → Rp c.Y.K w.I x d → setTg tg d env = some env' →
  (∀ σ' : L2.St, EnvR c.Y.K w env' σ' → σ'.length = σ.length → (∀ k, k ∉ tgSlots tg → σ'[k]? = σ[k]?) → Q σ' H) → g x σ H Q
theorem jg_one {i : Nat} {x : Str} {pos : Pos} (hN : X.N.Nodup) (hi : X.N[i]? = some x) (hx : Loc X.env.scope x) (hf : X.fn x = true ∨ X.env.scope.names.lookup x = some .local) : JG c X (.Name x pos) (.one i) := by
  refine ⟨_, pg_name hN hi hx hf, fun w m H σ env env' y d Q hr he hv hs k => ?_⟩
  simp only [setTg, Option.some.injEq] at hs
  subst hs
  refine k _ (he.set hv) (by simp) fun j hj => ?_
  rw [List.getElem?_set_ne (fun q => hj (by simp [tgSlots, q]))]
/-- the slots of several targets -/
def gsOf : List Nat → TGs
  | [] => gNil
  | i :: r => gCons (gName i) (gsOf r)
inductive Tgts (X : Cx) : List Expr → List Nat → Prop
  | nil : Tgts X [] []
  | cons {x : Str} {p : Pos} {i : Nat} {es : List Expr} {is : List Nat} : X.N[i]? = some x → Loc X.env.scope x → (X.fn x = true ∨ X.env.scope.names.lookup x = some .local) → Tgts X es is → Tgts X (.Name x p :: es) (i :: is)
theorem pgs_of (hN : X.N.Nodup) : ∀ {es : List Expr} {is : List Nat}, Tgts X es is → PGs X es (gsOf is)
  | _, _, .nil => pgs_nil
  | _, _, .cons h1 h2 h3 t => pgs_cons (pg_name hN h1 h2 h3) (pgs_of hN t)
theorem tgts_each : ∀ {es : List Expr} {is : List Nat}, Tgts X es is → (assignEach es X.env).length = is.length ∧ ∀ p ∈ assignEach es X.env, p.1 = false
  | _, _, .nil => ⟨rfl, fun p hp => by cases hp⟩
  | _, _, .cons (x := x) (p := p) (es := es) h1 h2 h3 t => by
    obtain ⟨a, b⟩ := tgts_each t
    have e : assignEach (.Name x p :: es) X.env = (false, assign (.Name x p) X.env) :: assignEach es X.env := rfl
    rw [e]
    refine ⟨by simp [a], fun q hq => ?_⟩
    rcases List.mem_cons.mp hq with rfl | hq
    · rfl
    · exact b q hq
theorem gs_run {K : PySem.W.Frag} {w : Wo} {H : Hp} {Q : L2.St → Hp → Prop} : ∀ {is : List Nat} {xs : List V} {l : List D} {σ : L2.St} {env : Env}, RpAll K w.I xs l → l.length = is.length → EnvR K w env σ →
    (∀ σ' : L2.St, EnvR K w ((is.zip l).foldl (fun e p => e.set p.1 (some (.d p.2))) env) σ' → σ'.length = σ.length → (∀ k, k ∉ is → σ'[k]? = σ[k]?) → Q σ' H) → gsOf is xs σ H Q
  | [], xs, l, σ, env, h, hl, he, k => by
    cases l with
    | nil =>
      cases h
      exact ⟨rfl, k σ he rfl fun _ _ => rfl⟩
    | cons _ _ => simp at hl
  | i :: is, xs, l, σ, env, h, hl, he, k => by
    cases h with
    | nil => simp at hl
    | @cons v vs d ds h1 h2 =>
      refine ⟨v, vs, rfl, ?_⟩
      show gsOf is vs (σ.set i (some v)) H Q
      refine gs_run h2 (by simpa using hl) (he.set (v := .d d) h1) fun σ' he' hl' hk => k σ' he' (by rw [hl']; simp) fun j hj => ?_
      simp only [List.mem_cons, not_or] at hj
      rw [hk j hj.2, List.getElem?_set_ne (Ne.symm hj.1)]
theorem jg_many {es : List Expr} {is : List Nat} {k0 : Nat} {pos : Pos} (hK : X.K = c.Y.K) (hc : X.calm = true) (hN : X.N.Nodup) (h : Tgts X es is) : JG c X (.Tuple es k0 pos) (.many is) := by
  obtain ⟨h1, h2⟩ := tgts_each h
  refine ⟨_, pg_tup (n := is.length) hc (pgs_of hN h) h1 (List.findIdx?_eq_none_iff.mpr fun p hp => h2 p hp), fun w m H σ env env' y d Q hr he hv hs k => ?_⟩
  simp only [setTg] at hs
  split at hs
  · rename_i l
    split at hs <;> cases hs
    rename_i hl
    cases hv with
    | @tup a xs ds g1 g2 g3 =>
      exact ⟨a, xs, rfl, hK ▸ seqT_mono hr.same g1, by rw [g3.length]; exact hl, gs_run g3 hl he fun σ' he' hl' hk => k σ' he' hl' hk⟩
  · cases hs
/-! what is walked -/
structure IterOk (c : Cfg) (w : Wo) (J : L2.It) (items : List D) : Prop where
  go : ∀ (i : Nat) w2 m2 H2 d, w.le w2 → Rl c.Y w2 m2 H2 → items[i]? = some d → J.go i H2 ∧ ∀ x H3, J.yld i H2 x H3 → ∃ w3, w2.le w3 ∧ w3.α = w2.α ∧ Rl c.Y w3 m2 H3 ∧ Rp c.Y.K w3.I x d
  stop : ∀ (i : Nat) w2 m2 H2, w.le w2 → Rl c.Y w2 m2 H2 → items.length ≤ i → J.stop i H2
def JI (c : Cfg) (X : Cx) (t' e' : Expr) (it : It) : Prop := ∃ wi : TI, PI X t' e' wi ∧ ∀ w m H (σ : L2.St) env Q, c.w0.le w → Rl c.Y w m H → EnvR c.Y.K w env σ → PostG c w (fun w _ J items => IterOk c w J items) (evIt c.Φ c.G it env m) Q → wi σ H Q
theorem pi_or {tg e : Expr} {u v : TI} (h : PI X tg e u) (k : PI X tg e v) : PI X tg e (fun σ H R => u σ H R ∨ v σ H R) := ⟨fun pins s σ H R I q => q.elim (h.run pins s σ H R I) (k.run pins s σ H R I)⟩
theorem iter_lst {w : Wo} {a : Addr} {xs : List V} {l : List D} (h1 : Rd w.I a (.lst xs)) (h2 : RpAll c.Y.K w.I xs l) : IterOk c w (Itl c.Y.K a) l where
  go := fun i w2 m2 H2 d l2 r2 hd => by
    obtain ⟨v, e1, e2⟩ := h2.get hd
    have g : SqL c.Y.K H2 a xs := .inl (rd_mono (l2.same.trans r2.same) h1)
    refine ⟨⟨xs, v, g, e1⟩, fun x H3 y => ?_⟩
    obtain ⟨rfl, y⟩ := y
    have := y xs g
    rw [e1] at this
    cases this
    exact ⟨w2, Wo.le.refl _, rfl, r2, Rp.mono l2.same _ _ e2⟩
  stop := fun i w2 m2 H2 l2 r2 hi => ⟨xs, .inl (rd_mono (l2.same.trans r2.same) h1), by rw [h2.length]; exact hi⟩
theorem iter_tup {w : Wo} {a : Addr} {xs : List V} {l : List D} (h1 : SqT c.Y.K w.I a xs) (h2 : RpAll c.Y.K w.I xs l) : IterOk c w (Itt c.Y.K a) l where
  go := fun i w2 m2 H2 d l2 r2 hd => by
    obtain ⟨v, e1, e2⟩ := h2.get hd
    have g : SqT c.Y.K H2 a xs := seqT_mono (l2.same.trans r2.same) h1
    refine ⟨⟨xs, v, g, e1⟩, fun x H3 y => ?_⟩
    obtain ⟨rfl, y⟩ := y
    have := y xs g
    rw [e1] at this
    cases this
    exact ⟨w2, Wo.le.refl _, rfl, r2, Rp.mono l2.same _ _ e2⟩
  stop := fun i w2 m2 H2 l2 r2 hi => ⟨xs, seqT_mono (l2.same.trans r2.same) h1, by rw [h2.length]; exact hi⟩
theorem iter_str {w : Wo} {s : Str} : IterOk c w (Its s) (s.cps.toList.map fun ch => .str ⟨#[ch]⟩) where
  go := fun i w2 m2 H2 d l2 r2 hd => by
    rw [List.getElem?_map, Option.map_eq_some_iff] at hd
    obtain ⟨ch, e1, rfl⟩ := hd
    have e1 : s.cps[i]? = some ch := by simpa using e1
    refine ⟨(Array.getElem?_eq_some_iff.mp e1).1, fun x H3 y => ?_⟩
    obtain ⟨rfl, c2, e2, rfl⟩ := y
    rw [e1] at e2
    cases e2
    exact ⟨w2, Wo.le.refl _, rfl, r2, .str _⟩
  stop := fun i w2 m2 H2 l2 r2 hi => by
    show s.cps.size ≤ i
    simpa using hi
theorem iter_rng {w : Wo} {i j : Int} {n : Nat} (hn : (j - i).toNat = n) : IterOk c w (Itr i n) (intRange i j) where
  go := fun k w2 m2 H2 d l2 r2 hd => by
    unfold intRange at hd
    rw [List.getElem?_map, Option.map_eq_some_iff] at hd
    obtain ⟨t, e1, rfl⟩ := hd
    obtain ⟨e2, e3⟩ := List.getElem?_eq_some_iff.mp e1
    have e4 : t = k := by simpa using e3.symm
    subst e4
    have e2 : t < n := by simpa [hn] using e2
    refine ⟨e2, fun x H3 y => ?_⟩
    obtain ⟨rfl, rfl⟩ := y
    exact ⟨w2, Wo.le.refl _, rfl, r2, .int _⟩
  stop := fun k w2 m2 H2 l2 r2 hi => by
    show n ≤ k
    unfold intRange at hi
    simpa [hn] using hi
theorem ji_seq {t' : Expr} (hK : X.K = c.Y.K) (h : JE c X e' e) : JI c X t' e' (.seq e) := by
  obtain ⟨t, p, k⟩ := h
  refine ⟨_, pi_or (pi_list p) (pi_or (pi_tup p) (pi_str p)), fun w m H σ env Q hw hr he hp => ?_⟩
  simp only [evIt] at hp
  cases hv : evE c.Φ c.G e env m with
  | exc ex m1 =>
    refine .inl (k w m H σ env _ hw hr he ?_)
    rw [hv] at hp ⊢
    exact hp
  | stuck => rw [hv] at hp; exact hp.elim
  | ok v m1 =>
    have fin : ∀ {P : V → Hp → Prop}, (∀ w1 H1 x, w.le w1 → Rl c.Y w1 m1 H1 → RV c.Y.K w1 x v → P x H1) → t σ H P := fun {P} kk => k w m H σ env P hw hr he (by rw [hv]; exact fun w1 H1 x l1 r1 v1 => kk w1 H1 x l1 r1 v1)
    rw [hv] at hp
    simp only [bind_ok] at hp
    split at hp
    · rename_i x
      split at hp
      · rename_i l hl
        cases x <;> simp only [seqItems, reduceCtorEq] at hl
        · cases hl
          refine .inr (.inr (fin fun w1 H1 x l1 r1 v1 => ⟨_, v1.str, hp w1 H1 _ l1 r1 iter_str⟩))
        · cases hl
          refine .inl (fin fun w1 H1 x l1 r1 v1 => ?_)
          cases (show Rp c.Y.K w1.I x _ from v1) with
          | lst g1 g2 g3 =>
            have q := hp w1 H1 _ l1 r1 (iter_lst g1 g3)
            rw [← hK] at q
            exact ⟨_, rfl, ⟨_, .inl (rd_mono r1.same g1)⟩, q⟩
        · cases hl
          refine .inr (.inl (fin fun w1 H1 x l1 r1 v1 => ?_))
          cases (show Rp c.Y.K w1.I x _ from v1) with
          | tup g1 g2 g3 =>
            have q := hp w1 H1 _ l1 r1 (iter_tup g1 g3)
            rw [← hK] at q
            exact ⟨_, rfl, ⟨_, hK ▸ seqT_mono r1.same g1⟩, q⟩
      · exact hp.elim
    · exact hp.elim
theorem inRange_ok {i : Int} (h : inRange i = true) : -(2 ^ 62) ≤ i ∧ i < 2 ^ 62 := by
  unfold inRange at h
  simpa using h
theorem ji_rng {t' : Expr} {p pos : Pos} (hB : BltOk X) (hg : Gl X "range") (ha : JA c X [a'] [a]) (ho : okx a' = true) : JI c X t' (.Call (.Name "range" p) [a'] [] pos) (.rng a) := by
  obtain ⟨t, pa, k⟩ := ha
  refine ⟨_, pi_range1 hg (hB _ (by decide +kernel)) pa (star_cons ho), fun w m H σ env Q hw hr he hp => ?_⟩
  simp only [evIt] at hp
  refine k w m H σ env _ hw hr he ?_
  simp only [evEs]
  cases hv : evE c.Φ c.G a env m with
  | exc ex m1 => rw [hv] at hp; exact hp
  | stuck => rw [hv] at hp; exact hp.elim
  | ok v m1 =>
    rw [hv] at hp
    simp only [bind_ok] at hp ⊢
    intro w1 H1 xs l1 r1 v1
    cases v1 with
    | cons z1 z2 =>
      cases z2
      split at hp
      · rename_i j
        split at hp
        · rename_i hj
          simp only [Bool.and_eq_true] at hj
          obtain ⟨h1, h2⟩ := inRange_ok hj.1
          exact ⟨j, by rw [RV.int z1], h1, h2, hp w1 H1 _ l1 r1 (iter_rng (by simp))⟩
        · exact hp.elim
      · exact hp.elim
theorem ji_rng2 {t' : Expr} {p pos : Pos} (hB : BltOk X) (hg : Gl X "range") (ha : JA c X [a', b'] [a, b]) (ho : okx a' = true) (ho2 : okx b' = true) : JI c X t' (.Call (.Name "range" p) [a', b'] [] pos) (.rng2 a b) := by
  obtain ⟨t, pa, k⟩ := ha
  refine ⟨_, pi_range2 hg (hB _ (by decide +kernel)) pa (by rw [star_cons ho, star_cons ho2]; rfl) (star_cons ho2), fun w m H σ env Q hw hr he hp => ?_⟩
  simp only [evIt] at hp
  refine k w m H σ env _ hw hr he ?_
  simp only [evEs]
  cases hv : evE c.Φ c.G a env m with
  | exc ex m1 => rw [hv] at hp; exact hp
  | stuck => rw [hv] at hp; exact hp.elim
  | ok v m1 =>
    rw [hv] at hp
    simp only [bind_ok] at hp ⊢
    cases hv2 : evE c.Φ c.G b env m1 with
    | exc ex m2 => rw [hv2] at hp; exact hp
    | stuck => rw [hv2] at hp; exact hp.elim
    | ok v2 m2 =>
      rw [hv2] at hp
      simp only [bind_ok] at hp ⊢
      intro w1 H1 xs l1 r1 v1
      cases v1 with
      | cons z1 z2 =>
        cases z2 with
        | cons z3 z4 =>
          cases z4
          split at hp
          · rename_i i j
            split at hp
            · rename_i hj
              simp only [Bool.and_eq_true] at hj
              obtain ⟨h1, h2⟩ := inRange_ok hj.1.1
              obtain ⟨h3, h4⟩ := inRange_ok hj.1.2
              exact ⟨i, j, by rw [RV.int z1, RV.int z3], ⟨h1, h2, h3, h4⟩, hp w1 H1 _ l1 r1 (iter_rng rfl)⟩
            · exact hp.elim
          · exact hp.elim
theorem enumD_get : ∀ (l : List D) (n i : Nat), (enumD n l)[i]? = (l[i]?).map fun x => PyData.tuple [.int ((n + i : Nat) : Int), x]
  | [], n, i => by simp [enumD]
  | x :: l, n, 0 => by simp [enumD]
  | x :: l, n, i + 1 => by
    simp only [enumD, List.getElem?_cons_succ]
    rw [enumD_get l (n + 1) i]
    congr 1
    funext y
    congr 4
    omega
theorem ji_enm {es : List Expr} {k0 : Nat} {p pos tpos : Pos} (hK : X.K = c.Y.K) (hB : BltOk X) (hg : Gl X "enumerate") (ha : JA c X [a'] [a]) (ho : okx a' = true) : JI c X (.Tuple es k0 tpos) (.Call (.Name "enumerate" p) [a'] [] pos) (.enm a) := by
  obtain ⟨t, pa, k⟩ := ha
  refine ⟨_, pi_enum hg (hB _ (by decide +kernel)) pa (star_cons ho), fun w m H σ env Q hw hr he hp => ?_⟩
  simp only [evIt] at hp
  refine k w m H σ env _ hw hr he ?_
  simp only [evEs]
  cases hv : evE c.Φ c.G a env m with
  | exc ex m1 => rw [hv] at hp; exact hp
  | stuck => rw [hv] at hp; exact hp.elim
  | ok v m1 =>
    rw [hv] at hp
    simp only [bind_ok] at hp ⊢
    intro w1 H1 xs l1 r1 v1
    cases v1 with
    | cons z1 z2 =>
      cases z2
      split at hp
      · rename_i l
        rename_i x0
        cases (show Rp c.Y.K w1.I _ _ from z1) with
        | @lst ad ys _ g1 g2 g3 =>
          refine ⟨ad, ys, rfl, .inl (rd_mono r1.same g1), hp w1 H1 _ l1 r1 ⟨fun i w2 m2 H2 d l2 r2 hd => ?_, fun i w2 m2 H2 l2 r2 hi => ?_⟩⟩
          · rw [enumD_get, Option.map_eq_some_iff] at hd
            obtain ⟨d0, e0, rfl⟩ := hd
            obtain ⟨v, e1, e2⟩ := g3.get e0
            have g : SqL X.K H2 ad ys := .inl (rd_mono (l2.same.trans r2.same) g1)
            refine ⟨⟨ys, v, g, e1⟩, fun x H3 y => ?_⟩
            obtain ⟨T, x, rfl, hn, rfl, hy⟩ := y
            have := hy ys g
            rw [e1] at this
            cases this
            obtain ⟨r3, l3⟩ := r2.data hn (o := .tup [.int (i : Nat), v]) (.inr ⟨_, rfl⟩)
            exact ⟨_, l3, rfl, r3, .tup (SqT.of upd_same) (by show 2 ≤ sizeLine; decide) (.cons (by simpa using Rp.int _) (.cons (Rp.mono (l2.same.trans l3.same) _ _ e2) .nil))⟩
          · refine ⟨ys, .inl (rd_mono (l2.same.trans r2.same) g1), ?_⟩
            have : (enumD 0 l).length = l.length := by
              have : ∀ (l : List D) n, (enumD n l).length = l.length := by
                intro l
                induction l with
                | nil => intro n; rfl
                | cons x l ih => intro n; simp [enumD, ih]
              exact this l 0
            rw [g3.length, ← this]
            exact hi
      · exact hp.elim
end
end Kp
end

section
set_option Elab.async false
set_option linter.all false
set_option maxRecDepth 100000
set_option maxHeartbeats 4000077
/-! D9: list comprehensions. -/
namespace Kp
open PySem
open PySem.Spec
open PyProof.Rows
open L2
section
variable {c : Cfg} {X : Cx} {e' a' b' d' : Expr} {e a b d : E}
theorem iter_zip {w : Wo} {J : L2.It} {l k : List D} {xs ys : List V} (h2 : RpAll c.Y.K w.I xs l) (k2 : RpAll c.Y.K w.I ys k)
    (go : ∀ (i : Nat) w2 H2 x y, Same w.I w2 → Same w2 H2 → xs[i]? = some x → ys[i]? = some y → J.go i H2 ∧ ∀ v H3, J.yld i H2 v H3 → ∃ T, v = .ref T ∧ H2 T = none ∧ H3 = upd H2 T (.tup [x, y]))
    (stop : ∀ (i : Nat) w2 H2, Same w.I w2 → Same w2 H2 → (xs.length ≤ i ∨ ys.length ≤ i) → J.stop i H2) : IterOk c w J (zipD l k) := by
  have zget : ∀ (l k : List D) (i : Nat) d, (zipD l k)[i]? = some d → ∃ p q, l[i]? = some p ∧ k[i]? = some q ∧ d = .tuple [p, q] := by
    intro l
    induction l with
    | nil => intro k i d h; simp [zipD] at h
    | cons p l ih =>
      intro k i d h
      cases k with
      | nil => simp [zipD] at h
      | cons q k =>
        cases i with
        | zero => simp only [zipD, List.getElem?_cons_zero, Option.some.injEq] at h; exact ⟨p, q, rfl, rfl, h.symm⟩
        | succ i => simp only [zipD, List.getElem?_cons_succ] at h; exact ih k i d h
  have zlen : ∀ (l k : List D), (zipD l k).length = min l.length k.length := by
    intro l
    induction l with
    | nil => intro k; simp [zipD]
    | cons p l ih =>
      intro k
      cases k with
      | nil => simp [zipD]
      | cons q k => simp only [zipD, List.length_cons, ih k]; omega
  refine ⟨fun i w2 m2 H2 d l2 r2 hd => ?_, fun i w2 m2 H2 l2 r2 hi => ?_⟩
  · obtain ⟨p, q, e1, e2, rfl⟩ := zget _ _ _ _ hd
    obtain ⟨x, f1, f2⟩ := h2.get e1
    obtain ⟨y, g1, g2⟩ := k2.get e2
    obtain ⟨z1, z2⟩ := go i w2.I H2 x y l2.same r2.same f1 g1
    refine ⟨z1, fun v H3 yy => ?_⟩
    obtain ⟨T, rfl, hn, rfl⟩ := z2 v H3 yy
    obtain ⟨r3, l3⟩ := r2.data hn (o := .tup [x, y]) (.inr ⟨_, rfl⟩)
    exact ⟨_, l3, rfl, r3, .tup (SqT.of upd_same) (by show 2 ≤ sizeLine; decide) (.cons (Rp.mono (l2.same.trans l3.same) _ _ f2) (.cons (Rp.mono (l2.same.trans l3.same) _ _ g2) .nil))⟩
  · refine stop i w2.I H2 l2.same r2.same ?_
    rw [zlen] at hi
    rw [h2.length, k2.length]
    omega
theorem ji_zip {es : List Expr} {k0 : Nat} {p pos tpos : Pos} (hK : X.K = c.Y.K) (hB : BltOk X) (hg : Gl X "zip") (ha : JA c X [a', b'] [a, b]) (ho : okx a' = true) (ho2 : okx b' = true) : JI c X (.Tuple es k0 tpos) (.Call (.Name "zip" p) [a', b'] [] pos) (.zip a b) := by
  obtain ⟨t, pa, kk⟩ := ha
  refine ⟨_, RZ.pi_zipA hg (hB _ (by decide +kernel)) pa (star_cons ho) (by rw [star_cons ho2]; rfl), fun w m H σ env Q hw hr he hp => ?_⟩
  simp only [evIt] at hp
  refine kk w m H σ env _ hw hr he ?_
  simp only [evEs]
  cases hv : evE c.Φ c.G a env m with
  | exc ex m1 => rw [hv] at hp; exact hp
  | stuck => rw [hv] at hp; exact hp.elim
  | ok v m1 =>
    rw [hv] at hp
    simp only [bind_ok] at hp ⊢
    cases hv2 : evE c.Φ c.G b env m1 with
    | exc ex m2 => rw [hv2] at hp; exact hp
    | stuck => rw [hv2] at hp; exact hp.elim
    | ok v2 m2 =>
      rw [hv2] at hp
      simp only [bind_ok] at hp ⊢
      intro w1 H1 xs l1 r1 v1
      cases v1 with
      | cons z1 z2 =>
        cases z2 with
        | cons z3 z4 =>
          cases z4
          split at hp
          · rename_i l k
            cases (show Rp c.Y.K w1.I _ _ from z1) with
            | @lst ad xs _ g1 g2 g3 =>
              cases (show Rp c.Y.K w1.I _ _ from z3) with
              | @lst bd ys _ k1 k2 k3 =>
                refine ⟨ad, bd, xs, ys, rfl, .inl ⟨.inl (rd_mono r1.same g1), .inl (rd_mono r1.same k1), hp w1 H1 _ l1 r1 (iter_zip g3 k3 (fun i w2 H2 x y s1 s2 q1 q2 => ?_) fun i w2 H2 s1 s2 hi => ?_)⟩⟩
                · have gx : SqL X.K H2 ad xs := .inl (rd_mono (s1.trans s2) g1)
                  have gy : SqL X.K H2 bd ys := .inl (rd_mono (s1.trans s2) k1)
                  refine ⟨⟨xs, ys, x, y, gx, gy, q1, q2⟩, fun v H3 yy => ?_⟩
                  obtain ⟨T, x', y', rfl, hT, rfl, f1, f2⟩ := yy
                  have e1 := f1 xs gx
                  have e2 := f2 ys gy
                  rw [q1] at e1; rw [q2] at e2
                  cases e1; cases e2
                  exact ⟨T, rfl, hT, rfl⟩
                · exact ⟨xs, ys, .inl (rd_mono (s1.trans s2) g1), .inl (rd_mono (s1.trans s2) k1), hi⟩
          · rename_i l k
            cases (show Rp c.Y.K w1.I _ _ from z1) with
            | @tup ad xs _ g1 g2 g3 =>
              cases (show Rp c.Y.K w1.I _ _ from z3) with
              | @tup bd ys _ k1 k2 k3 =>
                refine ⟨ad, bd, xs, ys, rfl, .inr ⟨hK ▸ seqT_mono r1.same g1, hK ▸ seqT_mono r1.same k1, hp w1 H1 _ l1 r1 (iter_zip g3 k3 (fun i w2 H2 x y s1 s2 q1 q2 => ?_) fun i w2 H2 s1 s2 hi => ?_)⟩⟩
                · have gx : SqT X.K H2 ad xs := hK ▸ seqT_mono (s1.trans s2) g1
                  have gy : SqT X.K H2 bd ys := hK ▸ seqT_mono (s1.trans s2) k1
                  refine ⟨⟨xs, ys, x, y, gx, gy, q1, q2⟩, fun v H3 yy => ?_⟩
                  obtain ⟨T, x', y', rfl, hT, rfl, f1, f2⟩ := yy
                  have e1 := f1 xs gx
                  have e2 := f2 ys gy
                  rw [q1] at e1; rw [q2] at e2
                  cases e1; cases e2
                  exact ⟨T, rfl, hT, rfl⟩
                · exact ⟨xs, ys, hK ▸ seqT_mono (s1.trans s2) g1, hK ▸ seqT_mono (s1.trans s2) k1, hi⟩
          · exact hp.elim
/-! conditions of a comprehension -/
def JC (c : Cfg) (X : Cx) (es' : List Expr) (es : List E) : Prop := ∃ t : TT, PTs X es' t ∧ ∀ w m H (σ : L2.St) env Q, c.w0.le w → Rl c.Y w m H → EnvR c.Y.K w env σ → PostG c w rB (evIfs c.Φ c.G es env m) Q → t σ H Q
theorem jc_nil : JC c X [] [] := ⟨_, pts_nil, fun w m H σ env Q hw hr he hp => PostG.here (S := rB) (by simpa only [evIfs] using hp) hr rfl⟩
theorem jc_one (h : JT c X e' e) : JC c X [e'] [e] := by
  obtain ⟨t, p, k⟩ := h
  refine ⟨_, pts_one p, fun w m H σ env Q hw hr he hp => k w m H σ env Q hw hr he ?_⟩
  have : evIfs c.Φ c.G [e] env m = evB c e env m := by
    simp only [evIfs, evB]
    cases evE c.Φ c.G e env m with
    | ok v m1 =>
      simp only [bind_ok]
      unfold asB
      split <;> rename_i bb <;> first | (cases bb <;> rfl) | rfl
    | exc _ _ => rfl
    | stuck => rfl
  rwa [this] at hp
/-! the block -/
abbrev bk (X : Cx) (scope : Scope) (s : Shared) (H : Hp) (C : Addr) (cl : List (Str × Addr)) (fp : List Addr) : Cx := X.blk s H scope (compEnvC scope cl C X.env) fp
def Cfg.low (c : Cfg) : Cfg := { c with Rx := fun _ _ => False }
theorem wipe_get {σ : L2.St} {i : Nat} : ∀ {vs : List Nat}, i ∉ vs → (wipe σ vs)[i]? = σ[i]?
  | [], _ => rfl
  | v :: vs, h => by
    simp only [List.mem_cons, not_or] at h
    unfold wipe
    rw [List.getElem?_set_ne (Ne.symm h.1)]
    exact wipe_get h.2
theorem wipe_at {σ : L2.St} {i : Nat} (hl : i < σ.length) : ∀ {vs : List Nat}, i ∈ vs → (wipe σ vs)[i]? = some none
  | v :: vs, h => by
    unfold wipe
    by_cases e : v = i
    · subst e
      rw [List.getElem?_set_self (by rw [wipe_length]; exact hl)]
    · rw [List.getElem?_set_ne e]
      exact wipe_at hl (by simpa [Ne.symm e] using h)
theorem wipeE_eq (env : Env) : ∀ vs, (wipeE env vs).length = env.length
  | [] => rfl
  | v :: vs => by unfold wipeE; rw [List.length_set, wipeE_eq env vs]
theorem wipeE_some {env : Env} {i : Nat} {x : Val} : ∀ {vs : List Nat}, (wipeE env vs)[i]? = some (some x) → env[i]? = some (some x) ∧ i ∉ vs
  | [], h => ⟨h, by simp⟩
  | v :: vs, h => by
    unfold wipeE at h
    by_cases hi : v = i
    · subst hi
      by_cases hv : v < (wipeE env vs).length
      · rw [List.getElem?_set_self hv] at h; cases h
      · rw [List.getElem?_eq_none (by simpa using hv)] at h; cases h
    · rw [List.getElem?_set_ne hi] at h
      obtain ⟨h1, h2⟩ := wipeE_some h
      exact ⟨h1, by simp only [List.mem_cons, not_or]; exact ⟨fun e => hi e.symm, h2⟩⟩
theorem EnvR.wiped {K : PySem.W.Frag} {w : Wo} {env : Env} {σ : L2.St} {vs ts : List Nat} (h : EnvR K w env σ) (hs : ∀ i ∈ vs, i ∈ ts) : EnvR K w (wipeE env ts) (wipe σ vs) := by
  refine ⟨by rw [wipeE_eq, wipe_length, h.1], fun i v e => ?_⟩
  obtain ⟨e1, e2⟩ := wipeE_some e
  obtain ⟨x, e3, r⟩ := h.2 i v e1
  exact ⟨x, by rw [wipe_get fun q => e2 (hs i q)]; exact e3, r⟩
theorem wipe_eq {σ σ2 : L2.St} {vs ts : List Nat} (hl : σ2.length = (wipe σ vs).length) (hk : ∀ k, k ∉ ts → σ2[k]? = (wipe σ vs)[k]?) (hs : ∀ i ∈ ts, i ∈ vs) : wipe σ2 vs = wipe σ vs := by
  refine List.ext_getElem? fun i => ?_
  by_cases hi : i ∈ vs
  · by_cases hlt : i < σ2.length
    · rw [wipe_at hlt hi, wipe_at (by rw [hl, wipe_length] at hlt; exact hlt) hi]
    · have h2 : σ2.length ≤ i := Nat.le_of_not_lt hlt
      rw [List.getElem?_eq_none (by rw [wipe_length]; exact h2), List.getElem?_eq_none (by rw [← hl]; exact h2)]
  · rw [wipe_get hi]
    exact hk i fun q => hi (hs i q)
/-- the value of one turn -/
def turnF (c : Cfg) (elt : E) (tg : Tg) (ifs : List E) (env : Env) : D → Store → Out (Option D) := fun x m => match setTg tg x (wipeE env (tgSlots tg)) with
  | some env => (evIfs c.Φ c.G ifs env m).bind fun b m => if b then (evE c.Φ c.G elt env m).bind fun v m => match v with
      | .d y => .ok (some y) m
      | _ => .stuck
    else .ok none m
  | none => .stuck
/-- what a block is asked for -/
structure BlockOk (c : Cfg) (X : Cx) (scope : Scope) (elt' tg' : Expr) (ifs' : List Expr) (elt : E) (tg : Tg) (ifs : List E) : Prop where
  tg : ∀ s H C cl fp, JG c.low (bk X scope s H C cl fp) tg' tg
  ifs : ∀ s H C cl fp, JC c.low (bk X scope s H C cl fp) ifs' ifs
  elt : ∀ s H C cl fp, JE c.low (bk X scope s H C cl fp) elt' elt
theorem block_of {scope : Scope} {elt' tg' : Expr} {ifs' : List Expr} {elt : E} {tg : Tg} {ifs : List E} {own : List (Str × Nat)} (B : BlockOk c X scope elt' tg' ifs' elt tg ifs) (hs1 : ∀ i ∈ own.map (·.2), i ∈ tgSlots tg) (hs2 : ∀ i ∈ tgSlots tg, i ∈ own.map (·.2)) :
    ∃ (g : TG) (tt : TT) (te : TE), (∀ s H C cl fp, PG (bk X scope s H C cl fp) tg' g) ∧ (∀ s H C cl fp, PTs (bk X scope s H C cl fp) ifs' tt) ∧ (∀ s H C cl fp, PE (bk X scope s H C cl fp) elt' te) ∧
      ∀ (wi : TI) (σ : L2.St) env (n : Nat) (J : L2.It) (items : List D) (Q : VK) w1 m1 H1 D, c.w0.le w1 → Rl c.Y w1 m1 H1 → EnvR c.Y.K w1 env σ → IterOk c w1 J items → H1 D = none → n = m1.length →
        PostG c w1 (rO c) ((compF n (turnF c elt tg ifs env) items (m1 ++ [.lst []])).bind fun ys m => .ok (.d (.list ys)) m) Q →
        ∃ W : Nat → Nat → Hp → Prop, (∃ m, W 0 m (upd H1 D (.lst []))) ∧ ∀ i m H, W i m H →
          (J.stop i H ∧ Q (.ref D) H) ∨ (J.go i H ∧ ∃ Nx : Hp → Prop, (∀ H', Nx H' → ∃ m', m' < m ∧ W (i + 1) m' H') ∧ ∀ x H', J.yld i H x H' → g x (wipe σ (own.map (·.2))) H' fun σ2 H2 => wipe σ2 (own.map (·.2)) = wipe σ (own.map (·.2)) ∧ tt σ2 H2 fun b H3 =>
            if b = true then te σ2 H3 fun y H4 => ∃ acc, H4 D = some (.lst acc) ∧ acc.length < sizeLine ∧ Nx (upd H4 D (.lst (acc ++ [y]))) else Nx H3) := by
  refine ⟨fun x σ H Q => ∀ s H0 C cl fp, (B.tg s H0 C cl fp).choose x σ H Q, fun σ H Q => ∀ s H0 C cl fp, (B.ifs s H0 C cl fp).choose σ H Q, fun σ H Q => ∀ s H0 C cl fp, (B.elt s H0 C cl fp).choose σ H Q,
    fun s H0 C cl fp => ⟨fun pins s' σ H x u Q I r h => (B.tg s H0 C cl fp).choose_spec.1.run pins s' σ H x u Q I r (h s H0 C cl fp)⟩,
    fun s H0 C cl fp => ⟨fun pins s' σ H Q I h => (B.ifs s H0 C cl fp).choose_spec.1.run pins s' σ H Q I (h s H0 C cl fp)⟩,
    fun s H0 C cl fp => ⟨fun pins s' σ H Q I h => (B.elt s H0 C cl fp).choose_spec.1.run pins s' σ H Q I (h s H0 C cl fp)⟩, ?_⟩
  intro wi σ env n J items Q w1 m1 H1 D hw r1 he hJ hD hn hp
  subst hn
  have lenα : w1.α.length = m1.length := r1.len
  have fD := r1.free hD
  have hp0 : PostG c ⟨w1.I, w1.α⟩ (rO c) ((compF m1.length (turnF c elt tg ifs env) (items.drop 0) (m1 ++ [.lst []])).bind fun ys m => .ok (.d (.list ys)) m) Q := hp
  obtain ⟨r2, l2⟩ := (r1.new hD (o := .lst []) (.inl trivial)).push fD.1 fD.2 (o := .lst []) ⟨[], upd_same, Nat.zero_le _, .nil⟩
  refine ⟨fun i k H => k = items.length - i ∧ i ≤ items.length ∧ ∃ w2 m2, Same w1.I w2.I ∧ w1.α ++ [D] <+: w2.α ∧ Rl c.Y w2 m2 H ∧
    PostG c ⟨w2.I, w1.α⟩ (rO c) ((compF m1.length (turnF c elt tg ifs env) (items.drop i) m2).bind fun ys m => .ok (.d (.list ys)) m) Q,
    ⟨items.length, rfl, Nat.zero_le _, ⟨w1.I, w1.α ++ [D]⟩, m1 ++ [.lst []], Same.refl _, List.prefix_refl _, r2, hp0⟩, ?_⟩
  rintro i k H ⟨rfl, hi, w2, m2, s2, p2, rr, hp2⟩
  have wle : w1.le w2 := ⟨s2, (List.prefix_append _ _).trans p2⟩
  have hDat : ∀ {w : Wo}, w1.α ++ [D] <+: w.α → w.α[m1.length]? = some D := fun {w} p => by
    refine pre_get p ?_
    rw [← lenα, List.getElem?_append_right (Nat.le_refl _), Nat.sub_self]; rfl
  by_cases hlt : i < items.length
  · refine .inr ⟨(hJ.go i w2 m2 H items[i] wle rr (List.getElem?_eq_getElem hlt)).1, fun H' => ∃ w2 m2, Same w1.I w2.I ∧ w1.α ++ [D] <+: w2.α ∧ Rl c.Y w2 m2 H' ∧
      PostG c ⟨w2.I, w1.α⟩ (rO c) ((compF m1.length (turnF c elt tg ifs env) (items.drop (i + 1)) m2).bind fun ys m => .ok (.d (.list ys)) m) Q, fun H' h => ⟨items.length - (i + 1), by omega, rfl, hlt, h⟩, fun x H' y => ?_⟩
    obtain ⟨w3, l3, e3, r3, v3⟩ := (hJ.go i w2 m2 H items[i] wle rr (List.getElem?_eq_getElem hlt)).2 x H' y
    rw [List.drop_eq_getElem_cons hlt] at hp2
    simp only [compF] at hp2
    have hp3 := PostG.mono (w := ⟨w2.I, w1.α⟩) (w' := ⟨w3.I, w1.α⟩) ⟨l3.same, List.prefix_refl _⟩ hp2
    have p3 : w1.α ++ [D] <+: w3.α := by rw [e3]; exact p2
    have w13 : w1.le w3 := wle.trans l3
    cases ht : turnF c elt tg ifs env items[i] m2 with
    | exc ex m3 => rw [ht] at hp3; exact hp3.elim
    | stuck => rw [ht] at hp3; exact hp3.elim
    | ok ans m3 =>
      rw [ht] at hp3
      unfold turnF at ht
      split at ht
      · rename_i env' hset
        intro s H0 C cl fp
        refine (B.tg s H0 C cl fp).choose_spec.2 w3 m2 H' (wipe σ (own.map (·.2))) _ env' x items[i] _ r3 ((he.mono w13).wiped hs1) v3 hset fun σ2 he2 hl2 hk2 => ?_
        refine ⟨wipe_eq hl2 hk2 hs2, fun s' H0' C' cl' fp' => ?_⟩
        refine (B.ifs s' H0' C' cl' fp').choose_spec.2 w3 m2 H' σ2 env' _ (hw.trans w13) r3 he2 ?_
        cases hif : evIfs c.Φ c.G ifs env' m2 with
        | exc ex m4 => rw [hif] at ht; cases ht
        | stuck => rw [hif] at ht; cases ht
        | ok bb m4 =>
          have hif' : evIfs c.low.Φ c.low.G ifs env' m2 = .ok bb m4 := hif
          rw [hif']
          rw [hif] at ht
          simp only [bind_ok] at ht
          intro w4 H4 b4 l4 r4 e4
          have e4 : b4 = bb := e4
          subst e4
          have p4 : w1.α ++ [D] <+: w4.α := p3.trans l4.pre
          have s4 : Same w1.I w4.I := w13.same.trans l4.same
          cases b4 with
          | false =>
            simp only [Bool.false_eq_true, if_false] at ht ⊢
            cases ht
            exact ⟨w4, m3, s4, p4, r4, PostG.mono (w := ⟨w3.I, w1.α⟩) (w' := ⟨w4.I, w1.α⟩) ⟨l4.same, List.prefix_refl _⟩ hp3⟩
          | true =>
            simp only [if_true] at ht ⊢
            intro s'' H0'' C'' cl'' fp''
            refine (B.elt s'' H0'' C'' cl'' fp'').choose_spec.2 w4 m4 H4 σ2 env' _ ((hw.trans w13).trans l4) r4 (he2.mono l4) ?_
            cases hel : evE c.Φ c.G elt env' m4 with
            | exc ex m5 => rw [hel] at ht; cases ht
            | stuck => rw [hel] at ht; cases ht
            | ok v m5 =>
              have hel' : evE c.low.Φ c.low.G elt env' m4 = .ok v m5 := hel
              rw [hel']
              rw [hel] at ht
              simp only [bind_ok] at ht
              intro w5 H5 y5 l5 r5 v5
              have p5 : w1.α ++ [D] <+: w5.α := p4.trans l5.pre
              have s5 : Same w1.I w5.I := s4.trans l5.same
              split at ht
              · rename_i yd
                cases ht
                simp only at hp3
                split at hp3
                · rename_i acc hacc
                  split at hp3
                  · rename_i hz
                    obtain ⟨_, xs, q1, q2, q3⟩ := r5.obj _ D _ (hDat p5) hacc
                    have hxl : xs.length < sizeLine := by rw [q3.length]; exact hz
                    refine ⟨xs, q1, hxl, w5, _, s5, p5, r5.write (o' := .lst (acc ++ [yd])) (hDat p5) q1 trivial trivial ⟨xs ++ [y5], upd_same, by rw [List.length_append]; exact hxl, q3.append (.cons v5 .nil)⟩ (List.getElem?_eq_some_iff.mp hacc).1, PostG.mono (w := ⟨w3.I, w1.α⟩) (w' := ⟨w5.I, w1.α⟩) ⟨l4.same.trans l5.same, List.prefix_refl _⟩ hp3⟩
                  · exact hp3.elim
                · exact hp3.elim
              · cases ht
      · cases ht
  · have e : i = items.length := by omega
    subst e
    refine .inl ⟨hJ.stop _ w2 m2 H wle rr (Nat.le_refl _), ?_⟩
    rw [List.drop_length] at hp2
    simp only [compF] at hp2
    split at hp2
    · rename_i acc hacc
      obtain ⟨q0, xs, q1, q2, q3⟩ := rr.obj _ D _ (hDat p2) hacc
      have r' := rr.cutTo (β := w1.α) (n := m1.length) ((List.prefix_append _ _).trans p2) lenα
      exact hp2.here r' ⟨D, xs, rfl, q0, fD.2, q1, q2, q3⟩
    · exact hp2.elim
theorem jf_comp {elt' tg' iter' : Expr} {ifs' : List Expr} {elt : E} {tg : Tg} {it : It} {ifs : List E} {scope : Scope} {own : List (Str × Nat)} {pos : Pos} (hc : X.calm = true) (hN : X.N.Nodup) (hi : JI c X tg' iter' it) (ok : BlkOk X.N X.env.scope scope own)
    (B : BlockOk c X scope elt' tg' ifs' elt tg ifs) (hs1 : ∀ i ∈ own.map (·.2), i ∈ tgSlots tg) (hs2 : ∀ i ∈ tgSlots tg, i ∈ own.map (·.2)) (hf : okx iter' = true) : JF c X (.ListComp elt' [⟨tg', iter', ifs', 0⟩] scope pos) (.comp elt tg it ifs) := by
  obtain ⟨g, tt, te, h1, h2, h3, h4⟩ := block_of (own := own) B hs1 hs2
  obtain ⟨wi, pi, k⟩ := hi
  refine ⟨_, pe_lc hc hN pi ok h1 h2 h3 (folded_of hf), fun w m H σ env Q hw hr he hp => ?_⟩
  simp only [evE] at hp
  refine k w m H σ env _ hw hr he (post_bind hp fun items m1 w1 H1 J hv l1 r1 v1 hp1 => fun D hD => ?_)
  exact h4 wi σ env m1.length J items Q w1 m1 H1 D (hw.trans l1) r1 (he.mono l1) v1 hD rfl hp1
/-- name = [..] on one line; the value goes to a slot -/
def JSet (c : Cfg) (X : Cx) (s' : Stmt) (i : Nat) (e : E) : Prop := ∃ t : TE, PS X s' (tAsg t (gName i)) ∧ ∀ w m H (σ : L2.St) env Q, c.w0.le w → Rl c.Y w m H → EnvR c.Y.K w env σ → PostG c w (rO c) (evE c.Φ c.G e env m) Q → t σ H Q
theorem jset_lc {i : Nat} {y : Str} {py spos : Pos} {elt' tg' iter' : Expr} {ifs' : List Expr} {elt : E} {tg : Tg} {it : It} {ifs : List E} {scope : Scope} {own : List (Str × Nat)} {pos : Pos} (hc : X.calm = true) (hN : X.N.Nodup) (hy : X.N[i]? = some y) (hyl : X.env.scope.names.lookup y = some .local)
    (hk : X.env.scope.kind = .function) (hl : (py.line == pos.line) = true) (hl2 : spos.line = pos.line ∨ True) (hn : (scope.names.any fun (n, k) => n == y && (k == .local || k == .cell)) = false)
    (hi : JI c X tg' iter' it) (ok : BlkOk X.N X.env.scope scope own)
    (B : BlockOk c X scope elt' tg' ifs' elt tg ifs) (hs1 : ∀ i ∈ own.map (·.2), i ∈ tgSlots tg) (hs2 : ∀ i ∈ tgSlots tg, i ∈ own.map (·.2)) (hf : okx iter' = true) : JSet c X (.Assign [.Name y py] (.ListComp elt' [⟨tg', iter', ifs', 0⟩] scope pos) spos) i (.comp elt tg it ifs) := by
  obtain ⟨g, tt, te, h1, h2, h3, h4⟩ := block_of (own := own) B hs1 hs2
  obtain ⟨wi, pi, k⟩ := hi
  refine ⟨_, ps_setLc hc hN hy hyl (sw_true hk hyl hl hn) pi ok h1 h2 h3 (folded_of hf), fun w m H σ env Q hw hr he hp => ?_⟩
  simp only [evE] at hp
  refine k w m H σ env _ hw hr he (post_bind hp fun items m1 w1 H1 J hv l1 r1 v1 hp1 => fun D hD => ?_)
  exact h4 wi σ env m1.length J items Q w1 m1 H1 D (hw.trans l1) r1 (he.mono l1) v1 hD rfl hp1
end
end Kp
end

section
set_option Elab.async false
set_option linter.all false
set_option maxRecDepth 100000
set_option maxHeartbeats 4000077
/-! D10: methods of lists; dicts. -/
namespace Kp
open PySem
open PySem.Spec
open PyProof.Rows
open L2
section
variable {c : Cfg} {X : Cx} {e' a' b' d' : Expr} {e a b d : E}
def rExtendR : V → List V → Hp → VK → Prop := fun x vs H Q => ∃ l b xs zs, x = .ref l ∧ vs = [.ref b] ∧ H l = some (.lst xs) ∧ Rd H b (.lst zs) ∧ xs.length + zs.length ≤ sizeLine ∧ Q .non (upd H l (.lst (xs ++ zs)))
theorem mt_extendR : MtM X "list.extend" rExtendR := by
  intro pins s σ H x vs v us Q I rx rv h
  obtain ⟨l, b, xs, zs, rfl, rfl, hH, hB, hz, q⟩ := h
  cases rx
  obtain ⟨u, rfl, ru⟩ := rv.one
  cases ru
  obtain ⟨z, its, n, r, hl, e⟩ := I.lstM hH
  obtain ⟨z2, its2, n2, r2, e2⟩ := hB.ok I.hok
  have hl2 := r2.length
  have big : its.toArray.size + its2.toArray.size ≤ sizeLine := by rw [List.size_toArray, List.size_toArray]; omega
  have nl : ¬ (!its.toArray.isEmpty && Builtin.List.listTooLong (its.toArray.size + its2.toArray.size)) = true := by
    rw [notLongL big, Bool.and_false]; simp
  refine call_meets F.slot_list_extend ⟨_, e, rfl⟩ F.entry_list_extend (F.args_list_extend_2 _ _)
    (AutoSeq1.list_extend_list_list_0 l its.toArray n b its2.toArray n2 nl (by rw [List.size_toArray]; omega) (by omega)) ⟨e, e2, ?_⟩
  exact ⟨.non, _, I.lset (its' := its ++ its2) hH e (by simp) (r.append r2) (by rw [List.length_append]; omega), rfl, q⟩
/-- what is put into a list is data -/
def MthA (c : Cfg) (X : Cx) (f : Mt) (id : String) : Prop := ∃ r, MtR X id r ∧ ∀ w m H x o xs vs ds Q, X.K = c.Y.K → Rl c.Y w m H → RV c.Y.K w x o → RVs c.Y.K w xs vs → dsOf vs m = some ds → (f = .append → pureD vs = some ds) → PostG c w (rV c) (mthV f o ds m) Q → r x xs H Q
theorem mr_append : MthA c X .append "list.append" := by
  refine ⟨_, mt_append, fun w m H x o xs vs ds Q hK r hx hv hd hp hq => ?_⟩
  have hall := pureD_all (hp rfl) hv
  cases o with
  | d _ => simp only [mthV] at hq; exact hq.elim
  | exc _ _ => simp only [mthV] at hq; exact hq.elim
  | loc l =>
    obtain ⟨ad, ha, rfl⟩ := hx
    cases hall with
    | nil => simp only [mthV] at hq; exact hq.elim
    | @cons y ys dy dys h1 h2 =>
      cases h2 with
      | cons _ _ => simp only [mthV] at hq; exact hq.elim
      | nil =>
        simp only [mthV] at hq
        split at hq
        · rename_i l0 hl
          split at hq
          · rename_i hz
            obtain ⟨_, zs, g1, g2, g3⟩ := r.obj l ad _ ha hl
            have hzl : zs.length < sizeLine := by rw [g3.length]; exact hz
            exact ⟨ad, zs, y, rfl, rfl, g1, hzl, hq.here (r.write (o' := .lst (l0 ++ [dy])) ha g1 trivial trivial ⟨zs ++ [y], upd_same, by rw [List.length_append]; exact hzl, g3.append (.cons h1 .nil)⟩ (List.getElem?_eq_some_iff.mp hl).1) Rp.non⟩
          · exact hq.elim
        · exact hq.elim
theorem mr_extend : MthA c X .extend "list.extend" := by
  refine ⟨_, mt_extendR, fun w m H x o xs vs ds Q hK r hx hv hd hp hq => ?_⟩
  have hall := RVs.top r hv hd
  cases o with
  | d _ => simp only [mthV] at hq; exact hq.elim
  | exc _ _ => simp only [mthV] at hq; exact hq.elim
  | loc l =>
    obtain ⟨ad, ha, rfl⟩ := hx
    cases hall with
    | nil => simp only [mthV] at hq; exact hq.elim
    | @cons y dy ys dys h1 h2 =>
      cases h2 with
      | cons _ _ => cases dy <;> (simp only [mthV] at hq; exact hq.elim)
      | nil =>
        cases dy <;> simp only [mthV] at hq
        case list k =>
          split at hq
          · rename_i l0 hl
            split at hq
            · rename_i hz
              obtain ⟨_, zs, g1, g2, g3⟩ := r.obj l ad _ ha hl
              obtain ⟨p, ks, rfl, k1, k2, k3⟩ := h1.lst
              have hzl : zs.length + ks.length ≤ sizeLine := by rw [g3.length, k3.length]; exact hz
              exact ⟨ad, p, zs, ks, rfl, rfl, g1, k1, hzl, hq.here (r.write (o' := .lst (l0 ++ k)) ha g1 trivial trivial ⟨zs ++ ks, upd_same, by rw [List.length_append]; exact hzl, g3.append k3⟩ (List.getElem?_eq_some_iff.mp hl).1) Rp.non⟩
            · exact hq.elim
          · exact hq.elim
        all_goals exact hq.elim
theorem mr_pop : MthA c X .pop "list.pop" := by
  refine ⟨_, show MtR X "list.pop" (fun x vs H Q => rPop x vs H Q ∨ rPopAt x vs H Q) from fun pins s σ H x xs v us Q I r1 r2 h => h.elim (mt_pop pins s σ H x xs v us Q I r1 r2) (mt_popAt pins s σ H x xs v us Q I r1 r2), fun w m H x o xs vs ds Q hK r hx hv hd hp hq => ?_⟩
  have hall := RVs.top r hv hd
  cases o with
  | d _ => simp only [mthV] at hq; exact hq.elim
  | exc _ _ => simp only [mthV] at hq; exact hq.elim
  | loc l =>
    obtain ⟨ad, ha, rfl⟩ := hx
    cases hall with
    | nil =>
      simp only [mthV] at hq
      split at hq
      · rename_i l0 hl
        split at hq
        · rename_i z hz
          obtain ⟨_, zs, g1, g2, g3⟩ := r.obj l ad _ ha hl
          have hz' : l0[l0.length - 1]? = some z := by rw [← List.getLast?_eq_getElem?]; exact hz
          obtain ⟨v, e1, e2⟩ := g3.get hz'
          refine .inl ⟨ad, zs, v, rfl, rfl, g1, by rw [g3.length]; exact e1, hq.here (r.write (o' := .lst l0.dropLast) ha g1 trivial trivial ⟨zs.dropLast, upd_same, by rw [List.length_dropLast]; omega, g3.dropLast⟩ (List.getElem?_eq_some_iff.mp hl).1) e2⟩
        · exact hq.elim
      · exact hq.elim
    | @cons y dy ys dys h1 h2 =>
      cases h2 with
      | cons _ _ => cases dy <;> (simp only [mthV] at hq; exact hq.elim)
      | nil =>
        cases dy <;> simp only [mthV] at hq
        case int i =>
          split at hq
          · rename_i l0 hl
            split at hq
            · rename_i hi
              split at hq
              · rename_i z hz
                obtain ⟨_, zs, g1, g2, g3⟩ := r.obj l ad _ ha hl
                obtain ⟨v, e1, e2⟩ := g3.get hz
                have hlt : i.toNat < zs.length := (List.getElem?_eq_some_iff.mp e1).1
                refine .inr ⟨ad, zs, i, i.toNat, v, rfl, by rw [h1.int], g1, by omega, by omega, seqIndex_of hi.1 (by omega), e1, hq.here (r.write (o' := .lst (l0.eraseIdx i.toNat)) ha g1 trivial trivial ⟨zs.eraseIdx i.toNat, upd_same, Nat.le_trans (len_erase _ _) g2, g3.eraseIdx _⟩ (List.getElem?_eq_some_iff.mp hl).1) e2⟩
              · exact hq.elim
            · exact hq.elim
          · exact hq.elim
        all_goals exact hq.elim
/-- the receiver is no bare call -/
def notCall : Expr → Bool
  | .Call _ _ _ _ => false
  | _ => true
theorem base_of {o : Expr} (h : notCall o = true) (name : Str) (env : PySem.Env) (x : Sem Value) : attributeBase o name env x = x := by
  cases o <;> first | rfl | exact absurd h Bool.false_ne_true
theorem dsOf_pure {m : Store} : ∀ {vs : List Val} {ds : List D}, pureD vs = some ds → dsOf vs m = some ds
  | [], _, h => by simp only [pureD] at h; cases h; rfl
  | .d x :: r, _, h => by
    simp only [pureD, Option.map_eq_some_iff] at h
    obtain ⟨s, e, rfl⟩ := h
    simp only [dsOf, dOf, dsOf_pure e]
  | .loc _ :: _, _, h => by simp only [pureD] at h; cases h
  | .exc _ _ :: _, _, h => by simp only [pureD] at h; cases h
theorem je_mth {f : Mt} {id : String} {nm : Str} {e0 : Expr} {r0 : List Expr} {es : List E} {apos cpos : Pos} (hK : X.K = c.Y.K) (slot : Slot "list" nm id) (hty : typeOf (.builtin id) = pure (.type "method_descriptor")) (h : MthA c X f id)
    (hr : ∀ o m, recvOk f o m = true → ∃ l, dOf o m = some (.list l))
    (ho : JE c X a' a) (hn : notCall a' = true) (hline : (apos.endLine == cpos.line) = true) (ha : JA c X (e0 :: r0) es) (hok : (e0 :: r0).all okx = true) (hlen : (e0 :: r0).length < 3) :
    JE c X (.Call (.Attribute a' nm apos) (e0 :: r0) [] cpos) (.mth f a es) := by
  obtain ⟨t, p, k⟩ := ho
  obtain ⟨u, q, l⟩ := ha
  obtain ⟨r, hm, kr⟩ := h
  rw [List.all_cons, Bool.and_eq_true] at hok
  refine ⟨_, pe_bm PySem.F.plainAttrs_list slot hty hm p q (base_of hn _ _ _) ?_ hline (star_cons hok.1) (star_any hok.2), ?_⟩
  · have := star_len (env := X.env) (pos := cpos) (r := e0 :: r0) (by rw [List.all_cons, hok.1, hok.2]; rfl)
    rw [this]
    have h3 : (e0 :: r0).length + 0 + 0 < 30 := by omega
    show (true && true && decide ((e0 :: r0).length + 0 + 0 < 30)) = true
    rw [decide_eq_true h3]; rfl
  · intro w m H σ env Q hw hrl he hp
    simp only [evE] at hp
    refine k w m H σ env _ hw hrl he (post_bind hp fun o m1 w1 H1 x hv l1 r1 v1 hp1 => ?_)
    split at hp1
    · rename_i hrec
      obtain ⟨l0, hl0⟩ := hr o m1 hrec
      have hx := v1.top r1 hl0
      obtain ⟨pp, xs, rfl, g1, g2, g3⟩ := hx.lst
      refine ⟨.inl ⟨rfl, xs, .inl g1⟩, ?_⟩
      refine l w1 m1 H1 σ env _ (hw.trans l1) r1 (he.mono l1) (post_bind hp1 fun vs m2 w2 H2 ys hvs l2 r2 v2 hp2 => ?_)
      split at hp2
      · rename_i ds hds
        have hds2 : dsOf vs m2 = some ds := by
          split at hds
          · exact dsOf_pure hds
          · exact hds
        refine kr w2 m2 H2 _ o ys vs ds Q hK r2 (v1.mono l2) v2 hds2 (fun e => ?_) hp2
        rw [if_pos e] at hds
        exact hds
      · exact hp2.elim
    · exact hp1.elim
theorem je_mth0 {f : Mt} {id : String} {nm : Str} {apos cpos : Pos} (hK : X.K = c.Y.K) (slot : Slot "list" nm id) (hty : typeOf (.builtin id) = pure (.type "method_descriptor")) (h : MthA c X f id)
    (hr : ∀ o m, recvOk f o m = true → ∃ l, dOf o m = some (.list l))
    (ho : JE c X a' a) (hn : notCall a' = true) (hline : (apos.endLine == cpos.line) = true) :
    JE c X (.Call (.Attribute a' nm apos) [] [] cpos) (.mth f a []) := by
  obtain ⟨t, p, k⟩ := ho
  obtain ⟨r, hm, kr⟩ := h
  refine ⟨_, pe_bm0 PySem.F.plainAttrs_list slot hty hm p (base_of hn _ _ _) hline, fun w m H σ env Q hw hrl he hp => ?_⟩
  simp only [evE, evEs, bind_ok] at hp
  refine k w m H σ env _ hw hrl he (post_bind hp fun o m1 w1 H1 x hv l1 r1 v1 hp1 => ?_)
  split at hp1
  · rename_i hrec
    obtain ⟨l0, hl0⟩ := hr o m1 hrec
    have hx := v1.top r1 hl0
    obtain ⟨pp, xs, rfl, g1, g2, g3⟩ := hx.lst
    refine ⟨.inl ⟨rfl, xs, .inl g1⟩, ?_⟩
    split at hp1
    · rename_i ds hds
      have hds2 : dsOf [] m1 = some ds := by
        split at hds
        · exact dsOf_pure hds
        · exact hds
      refine kr w1 m1 H1 _ o [] [] ds Q hK r1 v1 .nil hds2 (fun e => ?_) hp1
      rw [if_pos e] at hds
      exact hds
    · exact hp1.elim
  · exact hp1.elim
/-! dicts -/
abbrev KvR (K : PySem.W.Frag) (I : Hp) : List (L2.Key × V) → List (Key × D) → Prop := Paired fun p q => p.1 = q.1 ∧ Rp K I p.2 q.2
def toDs (kvs : List (Key × D)) : List (D × D) := kvs.map fun p => (keyD p.1, p.2)
theorem keyD_inj {k k' : Key} (h : keyD k = keyD k') : k = k' := by
  cases k <;> cases k' <;> simp_all [keyD]
theorem kvR_of {K : PySem.W.Frag} {I : Hp} : ∀ {ks : List (L2.Key × V)} {kvs : List (Key × D)}, RpKv K I ks (toDs kvs) → KvR K I ks kvs
  | ks, [], h => by
    cases ks with
    | nil => exact .nil
    | cons _ _ => nomatch h
  | ks, q :: kvs, h => by
    generalize e : toDs (q :: kvs) = ds at h
    cases h with
    | nil => simp [toDs] at e
    | cons h1 h2 =>
      simp only [toDs, List.map_cons, List.cons.injEq, Prod.mk.injEq] at e
      obtain ⟨⟨e1, e2⟩, e3⟩ := e
      subst e2
      refine .cons ⟨(keyD_inj e1).symm, h1⟩ (kvR_of ?_)
      rw [← e3] at h2
      exact h2
theorem kvR_to {K : PySem.W.Frag} {I : Hp} : ∀ {ks : List (L2.Key × V)} {kvs : List (Key × D)}, KvR K I ks kvs → RpKv K I ks (toDs kvs)
  | _, _, .nil => .nil
  | (k, v) :: _, (k', d) :: _, .cons h t => by
    obtain ⟨e, r⟩ := h
    have e : k = k' := e
    subst e
    exact .cons r (kvR_to t)
theorem kvR_any {K : PySem.W.Frag} {I : Hp} {k : Key} : ∀ {ks : List (L2.Key × V)} {kvs : List (Key × D)}, KvR K I ks kvs → (ks.any fun p => decide (p.1 = k)) = kvs.any fun p => decide (p.1 = k)
  | _, _, .nil => rfl
  | _, _, .cons h t => by
    rw [List.any_cons, List.any_cons, kvR_any t, h.1]
theorem kvR_map {K : PySem.W.Frag} {I : Hp} {k : Key} {v : V} {d : D} (r : Rp K I v d) : ∀ {ks : List (L2.Key × V)} {kvs : List (Key × D)}, KvR K I ks kvs →
    KvR K I (ks.map fun p => if p.1 = k then (p.1, v) else p) (kvs.map fun p => if p.1 = k then (p.1, d) else p)
  | _, _, .nil => .nil
  | p :: _, q :: _, .cons h t => by
    refine .cons ?_ (kvR_map r t)
    dsimp only
    rw [h.1]
    split
    · exact ⟨rfl, r⟩
    · exact h
theorem kvR_put {K : PySem.W.Frag} {I : Hp} {k : Key} {v : V} {d : D} {ks : List (L2.Key × V)} {kvs : List (Key × D)} (h : KvR K I ks kvs) (r : Rp K I v d) : KvR K I (L2.putK ks k v) (putK kvs k d) := by
  unfold L2.putK putK
  rw [kvR_any h]
  split
  · exact kvR_map r h
  · exact h.snoc ⟨rfl, r⟩
theorem kvR_merge {K : PySem.W.Frag} {I : Hp} : ∀ {ms : List (L2.Key × V)} {ns : List (Key × D)} {ks : List (L2.Key × V)} {kvs : List (Key × D)}, KvR K I ms ns → KvR K I ks kvs → KvR K I (mergeK ks ms) (ns.foldl (fun a p => putK a p.1 p.2) kvs)
  | _, _, _, _, .nil, h => h
  | (k, v) :: ms, (k', d) :: ns, ks, kvs, .cons h t, g => by
    obtain ⟨e, r⟩ := h
    have e : k = k' := e
    subst e
    exact kvR_merge (ms := ms) (ns := ns) (ks := L2.putK ks k v) (kvs := putK kvs k d) t (kvR_put g r)
theorem kvR_len {K : PySem.W.Frag} {I : Hp} : ∀ {ks : List (L2.Key × V)} {kvs : List (Key × D)}, KvR K I ks kvs → ks.length = kvs.length
  | _, _, .nil => rfl
  | _, _, .cons _ t => congrArg (· + 1) (kvR_len t)
/-! displays -/
def flat2 (ps : List (V × V)) : List V := ps.flatMap fun p => [p.1, p.2]
abbrev rPs (c : Cfg) : Wo → Hp → List (V × V) → List Val → Prop := fun w _ ps vs => RVs c.Y.K w (flat2 ps) vs
def JP (c : Cfg) (X : Cx) (pos : Pos) (ks : List (Option Expr)) (vs : List Expr) (es : List E) : Prop := ∃ trs, PPs X pos ks vs trs ∧ ∀ w m H (σ : L2.St) env (Q : List (V × V) → Hp → Prop), c.w0.le w → Rl c.Y w m H → EnvR c.Y.K w env σ →
  PostG c w (rPs c) (evEs c.Φ c.G es env m) Q → tPairs trs σ H Q
theorem jp_nil {pos : Pos} : JP c X pos [] [] [] := ⟨[], pps_nil, fun w m H σ env Q hw hr he hp => PostG.here (S := rPs c) (by simpa only [evEs] using hp) hr .nil⟩
theorem jp_cons {pos : Pos} {ks : List (Option Expr)} {vs : List Expr} {es : List E} {k1 v1 : E} (ha : JE c X a' k1) (hb : JE c X b' v1) (h : JP c X pos ks vs es) : JP c X pos (some a' :: ks) (b' :: vs) (k1 :: v1 :: es) := by
  obtain ⟨t, p, k⟩ := ha
  obtain ⟨u, q, l⟩ := hb
  obtain ⟨trs, r, n⟩ := h
  refine ⟨_, pps_cons p q r, fun w m H σ env Q hw hr he hp => ?_⟩
  simp only [evEs] at hp
  refine k w m H σ env _ hw hr he (post_bind hp fun x m1 w1 H1 vx _ l1 r1 v1 hp1 => ?_)
  rw [bind_assoc] at hp1
  refine l w1 m1 H1 σ env _ (hw.trans l1) r1 (he.mono l1) (post_bind hp1 fun y m2 w2 H2 vy _ l2 r2 v2 hp2 => ?_)
  rw [bind_assoc] at hp2
  refine n w2 m2 H2 σ env _ ((hw.trans l1).trans l2) r2 ((he.mono l1).mono l2) (post_bind hp2 fun ws m3 w3 H3 vws _ l3 r3 v3 hp3 => ?_)
  exact hp3.here r3 (.cons ((v1.mono l2).mono l3) (.cons (v2.mono l3) v3))
theorem pairsUp_kv {K : PySem.W.Frag} {w : Wo} : ∀ {ps : List (V × V)} {vs : List Val} {kvs : List (Key × D)}, pairsUp vs = some kvs → RVs K w (flat2 ps) vs → ∃ ks : List (L2.Key × V), ps = ks.map (fun kv => (kV kv.1, kv.2)) ∧ KvR K w.I ks kvs
  | [], _, kvs, h, r => by
    cases r
    simp only [pairsUp] at h; cases h
    exact ⟨[], rfl, .nil⟩
  | (x, y) :: ps, vs, kvs, h, r => by
    have r : RVs K w (x :: y :: flat2 ps) vs := r
    cases r with
    | @cons _ _ dx _ r1 r2 =>
      cases r2 with
      | @cons _ _ dy _ r3 r4 =>
        cases dx with
        | loc _ => simp [pairsUp] at h
        | exc _ _ => simp [pairsUp] at h
        | d dk =>
          cases dy with
          | loc _ => simp [pairsUp] at h
          | exc _ _ => simp [pairsUp] at h
          | d dv =>
            simp only [pairsUp] at h
            split at h
            · rename_i kk s e1 e2
              cases h
              obtain ⟨ks, e3, e4⟩ := pairsUp_kv e2 r4
              have := toKey_rp (show Rp K w.I x _ from r1) e1
              subst this
              exact ⟨(kk, y) :: ks, by rw [e3]; rfl, .cons ⟨rfl, r3⟩ e4⟩
            · cases h
theorem jf_dic {ks : List (Option Expr)} {vs : List Expr} {es : List E} {pos : Pos} (h : JP c X pos ks vs es) (hall : ks.all (·.isSome) = true) (hl : ks.length = vs.length) (h0 : ks ≠ []) (h15 : ks.length ≤ 15) (he2 : es.length = 2 * ks.length) : JF c X (.Dict ks vs pos) (.dic es) := by
  obtain ⟨trs, p, k⟩ := h
  refine ⟨_, pe_disp p hall hl h0 h15, fun w m H σ env Q hw hr he hp => fun pa hn => ?_⟩
  simp only [evE] at hp
  have f := hr.free hn
  obtain ⟨hr1, l0⟩ := (hr.new hn (o := .dK []) (.inl trivial)).push f.1 f.2 (o := .dict []) ⟨[], upd_same, .nil⟩
  have hlen := hr.len
  have key : ∀ (ps : List (V × V)) H', (∀ vs' m' w', evEs c.Φ c.G es env (m ++ [.dict []]) = .ok vs' m' → (⟨w.I, w.α ++ [pa]⟩ : Wo).le w' → Rl c.Y w' m' H' → RVs c.Y.K w' (flat2 ps) vs' →
      H' pa = some (.dK []) ∧ ∃ kvs : List (L2.Key × V), ps = kvs.map (fun kv => (kV kv.1, kv.2)) ∧ kvs.length ≤ 15 ∧ Q (.ref pa) (upd H' pa (.dK (mergeK [] kvs)))) := by
    intro ps H' vs' m' w' hv l1 r1 v1
    rw [hv] at hp
    simp only [bind_ok] at hp
    split at hp
    · rename_i kvs hm hpu
      have hat : w'.α[m.length]? = some pa := pre_get l1.pre (by show (w.α ++ [pa])[m.length]? = some pa; rw [← hlen, List.getElem?_append_right (Nat.le_refl _), Nat.sub_self]; rfl)
      obtain ⟨i0, ks0, e1, e2⟩ := r1.obj _ pa _ hat hm
      have : ks0 = [] := by
        cases ks0 with
        | nil => rfl
        | cons _ _ => nomatch e2
      subst this
      obtain ⟨kv2, q1, q2⟩ := pairsUp_kv hpu v1
      refine ⟨e1, kv2, q1, ?_, ?_⟩
      · have h1 : (flat2 ps).length = es.length := by rw [v1.length, evEs_length hv]
        have h2 : (flat2 ps).length = 2 * kv2.length := by
          rw [q1]
          clear q1 q2 h1 v1 e1
          induction kv2 with
          | nil => rfl
          | cons z zs ih => simp only [flat2, List.map_cons, List.flatMap_cons, List.length_append, List.length_cons, List.length_nil] at ih ⊢; omega
        omega
      · have r2 := r1.cutTo (β := w.α) (n := m.length) ((List.prefix_append _ _).trans l1.pre) hlen
        have r3 : Rl c.Y ⟨w'.I, w.α⟩ (m'.take m.length) (upd H' pa (.dK (mergeK [] kv2))) := by
          refine ⟨fun b x e => ?_, r2.len, r2.nd, fun l a o q3 q4 => ?_, c.Y.zwr H' pa _ _ r2.z e1 trivial trivial⟩
          · rw [upd_ne]
            · exact r2.same b x e
            · rintro rfl
              have e : w'.I b = some x := e
              rw [i0] at e; cases e
          · obtain ⟨g1, g2⟩ := r2.obj l a o q3 q4
            refine ⟨g1, g2.heap (upd_ne ?_)⟩
            rintro rfl
            exact f.2 (List.mem_of_getElem? q3)
        exact hp ⟨w'.I, w.α⟩ _ _ ⟨l1.same, List.prefix_refl _⟩ r3 ⟨pa, _, rfl, i0, f.2, upd_same, kvR_to (kvR_merge q2 .nil)⟩
    · exact hp.elim
  refine k ⟨w.I, w.α ++ [pa]⟩ (m ++ [.dict []]) _ σ env _ (hw.trans l0) hr1 (he.mono l0) ?_
  cases hv : evEs c.Φ c.G es env (m ++ [.dict []]) with
  | ok vs' m' => exact fun w' H' ps l1 r1 v1 => key ps H' vs' m' w' hv l1 r1 v1
  | exc ex m' => rw [hv] at hp; exact hp
  | stuck => rw [hv] at hp; exact hp.elim
end
end Kp
end

section
set_option Elab.async false
set_option linter.all false
set_option maxRecDepth 100000
set_option maxHeartbeats 4000077
/-! D11: min of tuples; dict(..) of pairs. -/
namespace Kp
open PySem
open PySem.Spec
open PyProof.Rows
open L2
section
variable {c : Cfg} {X : Cx}
/-- min(xs), xs tuples of numbers -/
def rMinT (K : PySem.W.Frag) : List V → Hp → VK → Prop := fun vs H Q => ∃ (a : Addr) (xs : List V) (nss : List (List Int)), vs = [.ref a] ∧ SqL K H a xs ∧ Paired (fun x ns => ∃ t, x = .ref t ∧ SqT K H t (ns.map V.int)) xs nss ∧ 0 < xs.length ∧
  ∀ i v, i = argBest (fun i j => HT.lexLt (nss.getD i []) (nss.getD j [])) (xs.length - 1) → xs[i]? = some v → Q v H
theorem paired_at {α β : Type} {F : α → β → Prop} {d : β} : ∀ {l : List α} {k : List β} {i : Nat} {x : α}, Paired F l k → l[i]? = some x → F x (k.getD i d)
  | _, _, i, x, .nil, h => by simp at h
  | _, _, 0, x, .cons h t, e => by simp at e; subst e; simpa using h
  | _, _, i + 1, x, .cons h t, e => by
    have := paired_at (d := d) (i := i) (x := x) t (by simpa using e)
    simpa using this
theorem valsAt : ∀ {xs : List V} {us : List Value} {i : Nat} {u : Value}, Vals xs us → us[i]? = some u → ∃ x, xs[i]? = some x ∧ RelV x u
  | _, _, i, _, .nil, e => by simp at e
  | _, _, 0, _, .cons r _, e => by simp at e; subst e; exact ⟨_, rfl, r⟩
  | _, _, i + 1, u, .cons _ t, e => by
    obtain ⟨x, a, b⟩ := valsAt (i := i) (u := u) t (by simpa using e)
    exact ⟨x, by simpa using a, b⟩
theorem cr_minT (hc : X.calm = true) (hu : X.A.units + 65 < cLine) : CallR X (.builtin "min") (rMinT X.K) := by
  intro pins s σ H vs us Q I r h
  obtain ⟨a, xs, nss, rfl, hs, hp, hne, q⟩ := h
  obtain ⟨its, rv, hl, _⟩ := I.list hs
  rw [Vals.ref1 r]
  have hn : its.toArray.size = xs.length := by rw [List.size_toArray]; exact rv.length.symm
  refine call_min_walkH (PySem.W.iter_listW (A := X.A.in1) (I.ok.hd hc) hl.isList fun s₂ e W st hfp hw hk => ?_)
  refine ⟨_, _, _, _, _, _, _, s.heap, (fun i j => HT.lexLt (nss.getD i []) (nss.getD j [])), rfl, W, st, hfp, by omega, hw, hk, fun i j vi vj s' Q' E' hk' hi hj hq => ?_, fun v s' hP m => ?_⟩
  · have at_ : ∀ (i : Nat) vi, its.toArray[i]? = some vi → ∃ t its2, vi = .ref t ∧ IsTup s.heap t its2 ∧ IntsAre its2.toList (nss.getD i []) := fun i vi hi => by
      have hi : its[i]? = some vi := by simpa using hi
      obtain ⟨x, e1, e2⟩ := valsAt rv hi
      obtain ⟨t, rfl, ht⟩ := paired_at (d := []) hp e1
      cases e2
      obtain ⟨it2, r2, p2, _⟩ := I.tuple ht
      exact ⟨t, it2.toArray, rfl, p2, intsAre_of r2⟩
    obtain ⟨t, i1, rfl, p1, k1⟩ := at_ i vi hi
    obtain ⟨t2, i2, rfl, p2, k2⟩ := at_ j vj hj
    exact HT.lt_tupInts (p1.keeps hk') (p2.keeps hk') k1 k2 (by show X.A.units + 1 < cLine; omega) hq
  · obtain ⟨h', tk, rfl, hk'⟩ := PySem.W.moved_old e rfl m
    have hP : its[argBest (fun i j => HT.lexLt (nss.getD i []) (nss.getD j [])) (its.toArray.size - 1)]? = some v := by simpa using hP
    obtain ⟨x, e1, e2⟩ := valsAt rv hP
    rw [hn] at e1
    exact ⟨x, H, I.kept hk', e2, q _ x rfl e1⟩
theorem intsOf_map : ∀ {l : List D} {is : List Int}, intsOf l = some is → l = is.map .int
  | [], is, h => by simp only [intsOf] at h; cases h; rfl
  | d :: l, is, h => by
    cases d <;> simp only [intsOf, reduceCtorEq, Option.map_eq_some_iff] at h
    obtain ⟨js, e, rfl⟩ := h
    rw [intsOf_map e]; rfl
theorem intss_get : ∀ {l : List D} {nss : List (List Int)} {i : Nat} {d : D}, intssOf l = some nss → l[i]? = some d → d = .tuple ((nss.getD i []).map .int)
  | [], _, i, d, _, h => by simp at h
  | e :: l, nss, i, d, q, h => by
    cases e <;> simp only [intssOf, reduceCtorEq] at q
    rename_i z
    split at q
    · rename_i is s e1 e2
      cases q
      cases i with
      | zero => simp at h; subst h; simp [intsOf_map e1]
      | succ i =>
        have := intss_get (i := i) (d := d) e2 (by simpa using h)
        simpa using this
    · cases q
theorem intss_all {K : PySem.W.Frag} {I H : Hp} (s : Same I H) : ∀ {xs : List V} {l : List D} {nss : List (List Int)}, RpAll K I xs l → intssOf l = some nss → Paired (fun x ns => ∃ t, x = .ref t ∧ SqT K H t (ns.map V.int)) xs nss ∧ xs.length = nss.length
  | _, _, nss, .nil, q => by simp only [intssOf] at q; cases q; exact ⟨.nil, rfl⟩
  | x :: xs, e :: l, nss, .cons h t, q => by
    cases e <;> simp only [intssOf, reduceCtorEq] at q
    rename_i z
    split at q
    · rename_i is s' e1 e2
      cases q
      obtain ⟨k1, k2⟩ := intss_all s t e2
      cases h with
      | tup g1 g2 g3 =>
        have := intsOf_rp g3 e1
        subst this
        exact ⟨.cons ⟨_, rfl, seqT_mono s g1⟩ k1, by simp [k2]⟩
    · cases q
theorem bi_min (hc : X.calm = true) (hu : X.A.units + 65 < cLine) : BiR c X .min (.builtin "min") := by
  refine ⟨_, ((cr_min hc).or (call_min2 hc)).or (cr_minT hc hu), fun w m H xs ds d Q hK r h hd hq => ?_⟩
  cases h with
  | nil => simp only [biD, reduceCtorEq] at hd
  | cons h1 h2 =>
    rename_i x dx xs ds
    cases h2 with
    | cons h3 h4 =>
      rename_i y dy ys dys
      cases h4 with
      | cons h5 h6 => cases dx <;> cases dy <;> simp only [biD, reduceCtorEq] at hd
      | nil =>
        cases dx <;> cases dy <;> simp only [biD, reduceCtorEq] at hd
        rename_i i j
        cases hd
        have e : (if j < i then j else i) = min i j := by
          split <;> omega
        exact .inl (.inr ⟨i, j, by rw [h1.int, h3.int], by rw [e]; exact hq.flat r (.int _) trivial⟩)
    | nil =>
      cases dx <;> simp only [biD, reduceCtorEq] at hd
      rename_i l
      cases l with
      | nil => simp only [biD, reduceCtorEq] at hd
      | cons z l =>
        cases z with
        | int i =>
          simp only [biD, Option.map_eq_some_iff] at hd
          obtain ⟨is, e, rfl⟩ := hd
          obtain ⟨p, xs, rfl, g1, g2, g3⟩ := h1.lst
          have := intsOf_rp g3 (is := i :: is) (by simp only [intsOf, e, Option.map_some])
          subst this
          refine .inl (.inl ⟨p, i :: is, rfl, .inl g1, by simp, fun m hm hk => ?_⟩)
          rw [minI_of hm hk]
          exact hq.flat r (.int _) trivial
        | tuple z =>
          simp only [biD] at hd
          split at hd
          · rename_i i is e1 e2
            cases hd
            obtain ⟨p, xs, rfl, g1, g2, g3⟩ := h1.lst
            have e3 : intssOf (.tuple z :: l) = some (i :: is) := by simp only [intssOf, e1, e2]
            obtain ⟨k1, k2⟩ := intss_all r.same g3 e3
            refine .inr ⟨p, xs, i :: is, rfl, .inl g1, hK ▸ k1, by rw [k2]; simp, fun n v hn hv => ?_⟩
            have hb := (PySem.W.argBest_fold HT.lexLt [] i is is.length (Nat.le_refl _))
            have hl : xs.length - 1 = is.length := by rw [k2]; simp
            rw [hl] at hn
            rw [← hn, List.take_length] at hb
            obtain ⟨dd, f1, f2⟩ := g3.getV hv
            have : dd = .tuple ((minT i is).map .int) := by
              have := intss_get e3 f1
              rw [this]
              show _ = PyData.tuple (((is.foldl (fun a y => if HT.lexLt y a = true then y else a) i)).map .int)
              rw [← hb.2]
            rw [this] at f2
            exact hq.flat r f2 trivial
          · cases hd
        | none => simp only [biD, reduceCtorEq] at hd
        | bool _ => simp only [biD, reduceCtorEq] at hd
        | str _ => simp only [biD, reduceCtorEq] at hd
        | list _ => simp only [biD, reduceCtorEq] at hd
        | dict _ => simp only [biD, reduceCtorEq] at hd
theorem pairs_all {K : PySem.W.Frag} {I H : Hp} (s : Same I H) : ∀ {xs : List V} {l : List D} {kvs : List (Key × D)}, RpAll K I xs l → pairsOf l = some kvs →
    ∃ (ps : List Addr) (ks : List (L2.Key × V)), xs = ps.map V.ref ∧ Paired (fun p kv => SqT K H p [kV kv.1, kv.2]) ps ks ∧ KvR K I ks kvs
  | _, _, kvs, .nil, q => by simp only [pairsOf] at q; cases q; exact ⟨[], [], rfl, .nil, .nil⟩
  | x :: xs, e :: l, kvs, .cons h t, q => by
    unfold pairsOf at q
    split at q
    · rename_i he; cases he
    · rename_i k v r he
      cases he
      split at q
      · rename_i kk s' e1 e2
        cases q
        obtain ⟨ps, ks, h1, h2, h3⟩ := pairs_all s t e2
        cases h with
        | tup g1 g2 g3 =>
          cases g3 with | cons z1 g3 =>
          cases g3 with | cons z2 g3 =>
          cases g3
          have := toKey_rp z1 e1
          subst this
          exact ⟨_ :: ps, (kk, _) :: ks, by rw [h1]; rfl, .cons (seqT_mono s g1) h2, .cons ⟨rfl, z2⟩ h3⟩
      · cases q
    · cases q
theorem bi_dict (hc : X.calm = true) : BiR c X .dict (.type "dict") := by
  refine ⟨_, call_dictP hc, fun w m H xs ds d Q hK r h hd hq => ?_⟩
  cases h with
  | nil => simp only [biD, reduceCtorEq] at hd
  | cons h1 h2 =>
    cases h2 with
    | cons h3 h4 => rename_i dx _ _ _ _; cases dx <;> simp only [biD, reduceCtorEq] at hd
    | nil =>
      rename_i x dx
      cases dx <;> simp only [biD, reduceCtorEq, Option.map_eq_some_iff] at hd
      obtain ⟨kvs, e, rfl⟩ := hd
      obtain ⟨p, xs, rfl, g1, g2, g3⟩ := h1.lst
      obtain ⟨ps, ks, rfl, k2, k3⟩ := pairs_all r.same g3 e
      refine ⟨p, ps, ks, rfl, .inl g1, hK ▸ k2, fun q hn => ?_⟩
      have f := r.free hn
      exact hq _ _ _ (Wo.le.refl w) (r.new hn (.inl trivial)) ⟨q, _, rfl, f.1, f.2, upd_same, kvR_to (kvR_merge k3 .nil)⟩
/-! list(range(..)) -/
theorem rg_rp {K : PySem.W.Frag} {I : Hp} {i j : Int} : RpAll K I (rgV i j) (intRange i j) := by
  unfold rgV intRange
  generalize List.range (j - i).toNat = l
  induction l with
  | nil => exact .nil
  | cons a r ih => exact .cons (.int _) ih
theorem rg_ok {i j : Int} (h : (inRange i && inRange j && decide (j - i ≤ sizeLine)) = true) : RgOk i j := by
  simp only [Bool.and_eq_true, decide_eq_true_eq] at h
  obtain ⟨h1, h2⟩ := inRange_ok h.1.1
  obtain ⟨h3, h4⟩ := inRange_ok h.1.2
  have := h.2
  rw [sizeLine_eq] at this
  exact ⟨h1, h2, h3, h4, by omega⟩
theorem rg_fin {w : Wo} {m : Store} {H : Hp} {Q : VK} {i j : Int} (h : (inRange i && inRange j && decide (j - i ≤ sizeLine)) = true) (r : Rl c.Y w m H) (hp : PostG c w (rO c) (.ok (.d (.list (intRange i j))) m) Q) :
    ∀ q, H q = none → Q (.ref q) (upd H q (.lst (rgV i j))) := fun q hq => by
  have f := r.free hq
  have ok := rg_ok h
  exact hp _ _ _ (Wo.le.refl w) (r.new hq (.inl trivial)) ⟨q, _, rfl, f.1, f.2, upd_same, by rw [rgV_length, sizeLine_eq]; exact ok.2.2.2.2, rg_rp⟩
theorem jf_lrg1 {a' : Expr} {a : E} {p p2 pos pos2 : Pos} (hc : X.calm = true) (hB : BltOk X) (hg : Gl X "list") (hg2 : Gl X "range") (ha : JE c X a' a) (ho : okx a' = true) : JF c X (.Call (.Name "list" p) [.Call (.Name "range" p2) [a'] [] pos2] [] pos) (.lrg1 a) := by
  obtain ⟨t, pa, k⟩ := ha
  refine ⟨_, pe_listRg hc hg (hB _ (by decide +kernel)) (prg_1 hg2 (hB _ (by decide +kernel)) pa (star_cons ho)) (by rfl), fun w m H σ env Q hw hr he hp => ?_⟩
  simp only [evE] at hp
  refine k w m H σ env _ hw hr he (post_bind hp fun v m1 w1 H1 x hv l1 r1 v1 hp1 => ?_)
  split at hp1
  · rename_i j
    split at hp1
    · rename_i hj
      have h2 : (inRange 0 && inRange j && decide (j - 0 ≤ sizeLine)) = true := by
        simp only [Bool.and_eq_true, decide_eq_true_eq] at hj ⊢
        refine ⟨⟨by decide, hj.1⟩, ?_⟩
        have := hj.2
        omega
      exact ⟨j, v1.int, rg_ok h2, rg_fin h2 r1 hp1⟩
    · exact hp1.elim
  · exact hp1.elim
theorem jf_lrg2 {a' b' : Expr} {a b : E} {p p2 pos pos2 : Pos} (hc : X.calm = true) (hB : BltOk X) (hg : Gl X "list") (hg2 : Gl X "range") (ha : JE c X a' a) (hb : JE c X b' b) (ho : okx a' = true) (ho2 : okx b' = true) : JF c X (.Call (.Name "list" p) [.Call (.Name "range" p2) [a', b'] [] pos2] [] pos) (.lrg2 a b) := by
  obtain ⟨t, pa, k⟩ := ha
  obtain ⟨u, pb, l⟩ := hb
  refine ⟨_, pe_listRg hc hg (hB _ (by decide +kernel)) (prg_2 hg2 (hB _ (by decide +kernel)) pa pb (star_cons ho) (star_cons ho2) (by rw [star_cons ho2]; rfl)) (by rfl), fun w m H σ env Q hw hr he hp => ?_⟩
  simp only [evE] at hp
  refine k w m H σ env _ hw hr he (post_bind hp fun v m1 w1 H1 x hv l1 r1 v1 hp1 => ?_)
  refine l w1 m1 H1 σ env _ (hw.trans l1) r1 (he.mono l1) (post_bind hp1 fun v' m2 w2 H2 y hv2 l2 r2 v2 hp2 => ?_)
  split at hp2
  · rename_i i j
    split at hp2
    · rename_i hj
      exact ⟨i, j, v1.int, v2.int, rg_ok hj, rg_fin hj r2 hp2⟩
    · exact hp2.elim
  · exact hp2.elim
end
end Kp
end

section
set_option Elab.async false
set_option linter.all false
set_option maxRecDepth 100000
set_option maxHeartbeats 4000077
/-! D12: statements. -/
namespace Kp
open PySem
open PySem.Spec
open PyProof.Rows
open L2
/-- what a def tells: its asker's own, or data -/
abbrev rR (c : Cfg) (own : Bool) : Wo → Hp → V → Val → Prop := fun w H x v => match v with
  | .d _ => if own = true then OwnV c.Y.K w H x v else RV c.Y.K w x v
  | _ => RV c.Y.K w x v
def PostS (c : Cfg) (own : Bool) (w : Wo) (r : Out Flow) (Q : Ends) : Prop :=
  match r with
  | .ok (.next env) m => ∀ w' H' σ', w.le w' → Rl c.Y w' m H' → EnvR c.Y.K w' env σ' → Q.nx σ' H'
  | .ok (.ret v) m => ∀ w' H' x, w.le w' → Rl c.Y w' m H' → rR c own w' H' x v → Q.rt x H'
  | .exc e m => c.Rx e m
  | .stuck => False
def JS (c : Cfg) (own : Bool) (X : Cx) (s' : Stmt) (s : S) : Prop := ∃ t : TS, PS X s' t ∧ ∀ w m H (σ : L2.St) env (Q : Ends), c.w0.le w → Rl c.Y w m H → EnvR c.Y.K w env σ → PostS c own w (evS c.Φ c.G s env m) Q → t Q σ H
def JSs (c : Cfg) (own : Bool) (X : Cx) (s' : List Stmt) (s : List S) : Prop := ∃ t : TS, PSs X s' t ∧ ∀ w m H (σ : L2.St) env (Q : Ends), c.w0.le w → Rl c.Y w m H → EnvR c.Y.K w env σ → PostS c own w (evSs c.Φ c.G s env m) Q → t Q σ H
section
variable {c : Cfg} {own : Bool} {X : Cx} {e' a' b' d' : Expr} {e a b d : E} {w w' : Wo}
theorem PostS.mono {r : Out Flow} {Q : Ends} (l : w.le w') (h : PostS c own w r Q) : PostS c own w' r Q := by
  cases r with
  | ok v m =>
    cases v with
    | next env => exact fun w2 H2 x l2 r2 v2 => h w2 H2 x (l.trans l2) r2 v2
    | ret v => exact fun w2 H2 x l2 r2 v2 => h w2 H2 x (l.trans l2) r2 v2
  | exc e m => exact h
  | stuck => exact h
/-- an expression first -/
theorem posts_bind {α β : Type} {R : Wo → Hp → β → α → Prop} {r : Out α} {f : α → Store → Out Flow} {Q : Ends} {Qa : β → Hp → Prop} (h : PostS c own w (r.bind f) Q)
    (k : ∀ v m w' H' x, r = .ok v m → w.le w' → Rl c.Y w' m H' → R w' H' x v → PostS c own w' (f v m) Q → Qa x H') : PostG c w R r Qa := by
  cases r with
  | ok v m => exact fun w2 H2 x l2 r2 v2 => k v m w2 H2 x rfl l2 r2 v2 (PostS.mono l2 h)
  | exc e m => exact h
  | stuck => exact h
/-- statements first -/
theorem posts_seq {r : Out Flow} {f : Env → Store → Out Flow} {Q Q' : Ends} (h : PostS c own w (r.bind fun fl m => match fl with | .next env => f env m | .ret v => .ok (.ret v) m) Q) (hrt : Q'.rt = Q.rt)
    (k : ∀ env m w' H' σ', w.le w' → Rl c.Y w' m H' → EnvR c.Y.K w' env σ' → PostS c own w' (f env m) Q → Q'.nx σ' H') : PostS c own w r Q' := by
  cases r with
  | ok v m =>
    cases v with
    | next env => exact fun w2 H2 x l2 r2 v2 => k env m w2 H2 x l2 r2 v2 (PostS.mono l2 h)
    | ret v =>
      intro w2 H2 x l2 r2 v2
      rw [hrt]
      exact h w2 H2 x l2 r2 v2
  | exc e m => exact h
  | stuck => exact h
theorem PostS.next {env : Env} {m : Store} {H : Hp} {σ : L2.St} {Q : Ends} (h : PostS c own w (.ok (.next env) m) Q) (r : Rl c.Y w m H) (q : EnvR c.Y.K w env σ) : Q.nx σ H := h w H σ (Wo.le.refl w) r q
theorem jss_nil : JSs c own X [] [] := ⟨_, pss_nil, fun w m H σ env Q hw hr he hp => PostS.next (by simpa only [evSs] using hp) hr he⟩
theorem jss_cons {s' : Stmt} {r' : List Stmt} {s : S} {r : List S} (h : JS c own X s' s) (hs : JSs c own X r' r) : JSs c own X (s' :: r') (s :: r) := by
  obtain ⟨t, p, k⟩ := h
  obtain ⟨u, q, l⟩ := hs
  refine ⟨_, pss_cons p q, fun w m H σ env Q hw hr he hp => ?_⟩
  simp only [evSs] at hp
  exact k w m H σ env _ hw hr he (posts_seq hp rfl fun env' m' w' H' σ' l' r' e' q' => l w' m' H' σ' env' Q (hw.trans l') r' e' q')
/-- the value is dropped -/
def isComp : Expr → Bool
  | .ListComp _ _ _ _ => true
  | .SetComp _ _ _ _ => true
  | .DictComp _ _ _ _ _ => true
  | _ => false
theorem sw_none {v : Expr} {t : Option Expr} {l : Nat} {env : PySem.Env} (h : isComp v = false) : swapsWith v t l env = pure false := by
  cases v <;> first | rfl | exact absurd h (by simp [isComp])
theorem js_exp {pos : Pos} (h : JE c X e' e) (hc : isComp e' = false) : JS c own X (.Expr e' pos) (.exp e) := by
  obtain ⟨t, p, k⟩ := h
  refine ⟨_, ps_expr p (sw_none hc), fun w m H σ env Q hw hr he hp => ?_⟩
  simp only [evS] at hp
  exact k w m H σ env _ hw hr he (posts_bind hp fun v m1 w1 H1 x hq_m1 l1 r1 v1 q => q.next r1 (he.mono l1))
/-- name = value: the value as data, or as what is new -/
theorem jset_of {i : Nat} {y : Str} {py pos : Pos} (h : JF c X e' e) (hc : isComp e' = false) (hN : X.N.Nodup) (hi : X.N[i]? = some y) (hx : Loc X.env.scope y) (hf : X.fn y = true ∨ X.env.scope.names.lookup y = some .local) : JSet c X (.Assign [.Name y py] e' pos) i e := by
  obtain ⟨t, p, k⟩ := h
  exact ⟨t, ps_set hN hi hx p (sw_none hc) hf, k⟩
theorem js_set {i : Nat} {y : Str} {py pos : Pos} (h : JE c X e' e) (hc : isComp e' = false) (hN : X.N.Nodup) (hi : X.N[i]? = some y) (hx : Loc X.env.scope y) (hf : X.fn y = true ∨ X.env.scope.names.lookup y = some .local) : JS c own X (.Assign [.Name y py] e' pos) (.set i e) := by
  obtain ⟨t, p, k⟩ := h
  refine ⟨_, ps_set hN hi hx p (sw_none hc) hf, fun w m H σ env Q hw hr he hp => ?_⟩
  simp only [evS] at hp
  exact k w m H σ env _ hw hr he (posts_bind hp fun v m1 w1 H1 x hq_m1 l1 r1 v1 q => q.next r1 ((he.mono l1).set v1))
theorem js_setF {i : Nat} {s' : Stmt} (h : JSet c X s' i e) : JS c own X s' (.set i e) := by
  obtain ⟨t, p, k⟩ := h
  refine ⟨_, p, fun w m H σ env Q hw hr he hp => ?_⟩
  simp only [evS] at hp
  refine k w m H σ env _ hw hr he (posts_bind hp fun v m1 w1 H1 x hq_m1 l1 r1 v1 q => ?_)
  obtain ⟨w2, l2, _, r2, v2⟩ := OwnV.data r1 v1
  exact (q.mono l2).next r2 ((he.mono (l1.trans l2)).set v2)
theorem thaw_ok {m m' : Store} {H : Hp} {x : V} {v v' : Val} (r : Rl c.Y w m H) (o : OwnV c.Y.K w H x v) (h : thaw v m = .ok v' m') : ∃ w', w.le w' ∧ Rl c.Y w' m' H ∧ RV c.Y.K w' x v' := by
  unfold thaw at h
  split at h
  · rename_i l
    cases h
    obtain ⟨a, xs, rfl, h1, h2, h3, h4, h5⟩ := o
    obtain ⟨r2, l2⟩ := r.push h1 h2 (o := .lst l) ⟨xs, h3, h4, h5⟩
    refine ⟨_, l2, r2, a, ?_, rfl⟩
    show (w.α ++ [a])[m.length]? = some a
    rw [← r.len, List.getElem?_append_right (Nat.le_refl _), Nat.sub_self]; rfl
  · rename_i kvs
    split at h
    · rename_i kvs' hk
      cases h
      obtain ⟨a, ks, rfl, h1, h2, h3, h4⟩ := o
      have h4' : RpKv c.Y.K w.I ks (kvs'.map fun p => (keyD p.1, p.2)) := by
        clear r h3
        induction kvs generalizing kvs' ks with
        | nil => simp only [unKeys] at hk; cases hk; exact h4
        | cons p r ih =>
          simp only [unKeys] at hk
          split at hk
          · rename_i k1 s e1 e2
            cases hk
            obtain ⟨p1, p2⟩ := p
            cases h4 with
            | cons g1 g2 =>
              have := key_toKey e1
              subst this
              exact .cons g1 (ih _ e2 _ g2)
          · cases hk
      obtain ⟨r2, l2⟩ := r.push h1 h2 (o := .dict kvs') ⟨ks, h3, h4'⟩
      refine ⟨_, l2, r2, a, ?_, rfl⟩
      show (w.α ++ [a])[m.length]? = some a
      rw [← r.len, List.getElem?_append_right (Nat.le_refl _), Nat.sub_self]; rfl
    · cases h
  · cases h
theorem thaw_cases (v : Val) (m : Store) : (∃ v' m', thaw v m = .ok v' m') ∨ thaw v m = .stuck := by
  unfold thaw
  split
  · exact .inl ⟨_, _, rfl⟩
  · split
    · exact .inl ⟨_, _, rfl⟩
    · exact .inr rfl
  · exact .inr rfl
theorem js_setM {i : Nat} {s' : Stmt} (h : JSet c X s' i e) : JS c own X s' (.setM i e) := by
  obtain ⟨t, p, k⟩ := h
  refine ⟨_, p, fun w m H σ env Q hw hr he hp => ?_⟩
  simp only [evS] at hp
  refine k w m H σ env _ hw hr he (posts_bind hp fun v m1 w1 H1 x hq_m1 l1 r1 v1 q => ?_)
  rcases thaw_cases v m1 with ⟨v', m', hv⟩ | hv
  · rw [hv] at q
    obtain ⟨w2, l2, r2, v2⟩ := thaw_ok r1 v1 hv
    exact (q.mono l2).next r2 ((he.mono (l1.trans l2)).set v2)
  · rw [hv] at q; exact q.elim
theorem js_ret {pos : Pos} (h : JE c X e' e) (ho : own = false) : JS c own X (.Return (some e') pos) (.ret e) := by
  obtain ⟨t, p, k⟩ := h
  refine ⟨_, ps_ret p, fun w m H σ env Q hw hr he hp => ?_⟩
  simp only [evS] at hp
  subst ho
  refine k w m H σ env _ hw hr he (posts_bind hp fun v m1 w1 H1 x hq_m1 l1 r1 v1 q => q w1 H1 x (Wo.le.refl _) r1 ?_)
  cases v <;> exact v1
theorem js_retF {pos : Pos} (h : JF c X e' e) : JS c own X (.Return (some e') pos) (.ret e) := by
  cases own with
  | false => exact js_ret h.je rfl
  | true =>
    obtain ⟨t, p, k⟩ := h
    refine ⟨_, ps_ret p, fun w m H σ env Q hw hr he hp => ?_⟩
    simp only [evS] at hp
    refine k w m H σ env _ hw hr he (posts_bind hp fun v m1 w1 H1 x hq_m1 l1 r1 v1 q => q w1 H1 x (Wo.le.refl _) r1 ?_)
    cases v <;> exact v1
theorem js_retN {pos : Pos} : JS c own X (.Return none pos) .retN := by
  refine ⟨_, ps_retN, fun w m H σ env Q hw hr he hp => ?_⟩
  simp only [evS] at hp
  refine hp w H .non (Wo.le.refl _) hr ?_
  cases own <;> exact Rp.non
theorem js_pass {pos : Pos} : JS c own X (.Pass pos) .pass := by
  refine ⟨_, ps_pass, fun w m H σ env Q hw hr he hp => ?_⟩
  simp only [evS] at hp
  exact hp.next hr he
theorem js_ife {p' q' : List Stmt} {p q : List S} {pos : Pos} (hc : JT c X e' e) (ha : JSs c own X p' p) (hb : JSs c own X q' q) : JS c own X (.If e' p' q' pos) (.ife e p q) := by
  obtain ⟨t, h1, k⟩ := hc
  obtain ⟨u, h2, l⟩ := ha
  obtain ⟨v, h3, n⟩ := hb
  refine ⟨_, ps_if h1 h2 h3, fun w m H σ env Q hw hr he hp => ?_⟩
  simp only [evS] at hp
  rw [← bind_assoc] at hp
  refine k w m H σ env _ hw hr he (posts_bind (r := evB c e env m) hp fun z m1 w1 H1 x hq_m1 l1 r1 v1 hp1 => ?_)
  have v1 : x = z := v1
  subst v1
  cases x with
  | true => exact l w1 m1 H1 σ env _ (hw.trans l1) r1 (he.mono l1) hp1
  | false => exact n w1 m1 H1 σ env _ (hw.trans l1) r1 (he.mono l1) hp1
theorem js_whl {p' : List Stmt} {p : List S} {pos : Pos} (hpo : PassesOwn (model X.prog X.w) X.A X.env X.xe) (hc : JT c X e' e) (ha : JSs c own X p' p) : JS c own X (.While e' p' [] pos) (.whl e p) := by
  obtain ⟨t, h1, k⟩ := hc
  obtain ⟨u, h2, l⟩ := ha
  refine ⟨_, ps_while hpo h1 h2, fun w m H σ env Q hw hr he hp => ?_⟩
  simp only [evS] at hp
  refine ⟨fun n σ H => ∃ w' m env, w.le w' ∧ Rl c.Y w' m H ∧ EnvR c.Y.K w' env σ ∧ PostS c own w' (whileF (fun env m => (evE c.Φ c.G e env m).bind asB) (fun env m => evSs c.Φ c.G p env m) n env m) Q,
    ⟨whileN, w, m, env, Wo.le.refl w, hr, he, hp⟩, ?_⟩
  rintro n σ1 H1 ⟨w1, m1, env1, l1, r1, e1, q1⟩
  cases n with
  | zero => exact q1.elim
  | succ n =>
    simp only [whileF] at q1
    refine k w1 m1 H1 σ1 env1 _ (hw.trans l1) r1 e1 (posts_bind (r := evB c e env1 m1) q1 fun z m2 w2 H2 x hq_m2 l2 r2 v2 hp2 => ?_)
    have v2 : x = z := v2
    subst v2
    cases x with
    | true =>
      simp only [if_true] at hp2 ⊢
      refine ⟨fun σ' H' => ∃ w' m env, w.le w' ∧ Rl c.Y w' m H' ∧ EnvR c.Y.K w' env σ' ∧ PostS c own w' (whileF (fun env m => (evE c.Φ c.G e env m).bind asB) (fun env m => evSs c.Φ c.G p env m) n env m) Q,
        fun σ' H' h => ⟨n, Nat.lt_succ_self n, h⟩, ?_⟩
      exact l w2 m2 H2 σ1 env1 _ ((hw.trans l1).trans l2) r2 (e1.mono l2) (posts_seq hp2 rfl fun env3 m3 w3 H3 σ3 l3 r3 e3 q3 => ⟨w3, m3, env3, (l1.trans l2).trans l3, r3, e3, q3⟩)
    | false =>
      simp only [Bool.false_eq_true, if_false] at hp2 ⊢
      exact hp2.next r2 (e1.mono l2)
theorem js_for {tg' it' : Expr} {tg : Tg} {it : It} {p' : List Stmt} {p : List S} {pos : Pos} (hpo : PassesOwn (model X.prog X.w) X.A X.env X.xe) (hc : X.calm = true) (hi : JI c X tg' it' it) (hg : JG c X tg' tg) (ha : JSs c own X p' p) (ho : okx it' = true) :
    JS c own X (.For tg' it' p' [] pos) (.forr tg it p) := by
  obtain ⟨wi, h1, k⟩ := hi
  obtain ⟨g, h2, kg⟩ := hg
  obtain ⟨u, h3, l⟩ := ha
  refine ⟨_, ps_for hpo hc h1 h2 h3 (folded_of ho), fun w m H σ env Q hw hr he hp => ?_⟩
  simp only [evS] at hp
  refine k w m H σ env _ hw hr he (posts_bind hp fun items m1 w1 H1 J hv l1 r1 v1 hp1 => ?_)
  have J1 : IterOk c w1 J items := v1
  refine ⟨fun i n σ H => n = items.length - i ∧ i ≤ items.length ∧ ∃ w' m env, w1.le w' ∧ Rl c.Y w' m H ∧ EnvR c.Y.K w' env σ ∧ PostS c own w' (forF (fun x env m => match setTg tg x env with
      | some env => evSs c.Φ c.G p env m
      | none => .stuck) (items.drop i) env m) Q, ⟨items.length, rfl, Nat.zero_le _, w1, m1, env, Wo.le.refl _, r1, he.mono l1, hp1⟩, ?_⟩
  rintro i n σ2 H2 ⟨rfl, hi, w2, m2, env2, l2, r2, e2, q2⟩
  by_cases hlt : i < items.length
  · obtain ⟨g1, g2⟩ := J1.go i w2 m2 H2 items[i] l2 r2 (List.getElem?_eq_getElem hlt)
    refine .inr ⟨g1, fun σ' H' => ∃ w' m env, w1.le w' ∧ Rl c.Y w' m H' ∧ EnvR c.Y.K w' env σ' ∧ PostS c own w' (forF (fun x env m => match setTg tg x env with
      | some env => evSs c.Φ c.G p env m
      | none => .stuck) (items.drop (i + 1)) env m) Q, fun σ' H' h => ⟨items.length - (i + 1), by omega, rfl, hlt, h⟩, fun x H3 y => ?_⟩
    obtain ⟨w3, l3, e3, r3, v3⟩ := g2 x H3 y
    rw [List.drop_eq_getElem_cons hlt] at q2
    simp only [forF] at q2
    cases hs : setTg tg items[i] env2 with
    | none => rw [hs] at q2; exact q2.elim
    | some env3 =>
      rw [hs] at q2
      refine kg w3 m2 H3 σ2 env2 env3 x items[i] _ r3 (e2.mono l3) v3 hs fun σ4 he4 hl4 hk4 => ?_
      exact l w3 m2 H3 σ4 env3 _ (((hw.trans l1).trans l2).trans l3) r3 he4 (posts_seq (q2.mono l3) rfl fun env5 m5 w5 H5 σ5 l5 r5 e5 q5 => ⟨w5, m5, env5, (l2.trans l3).trans l5, r5, e5, q5⟩)
  · have e : i = items.length := by omega
    subst e
    refine .inl ⟨J1.stop _ w2 m2 H2 l2 r2 (Nat.le_refl _), ?_⟩
    rw [List.drop_length] at q2
    simp only [forF] at q2
    exact q2.next r2 e2
/-- code that is not come to -/
theorem js_bad {s' : Stmt} {s : S} (h : ∀ env m, evS c.Φ c.G s env m = .stuck) : JS c own X s' s := ⟨_, ps_never, fun w m H σ env Q hw hr he hp => by rw [h] at hp; exact hp.elim⟩
/-! several targets -/
theorem js_unp {es : List Expr} {is : List Nat} {k0 : Nat} {tpos pos : Pos} (hK : X.K = c.Y.K) (hc : X.calm = true) (hN : X.N.Nodup) (hT : Tgts X es is) (h : JE c X e' e) (hnt : ∀ vs k p, e' ≠ .Tuple vs k p) : JS c own X (.Assign [.Tuple es k0 tpos] e' pos) (.unp is e) := by
  obtain ⟨t, p, k⟩ := h
  obtain ⟨g, pg, kg⟩ := jg_many (c := c) (pos := tpos) (k0 := k0) hK hc hN hT
  refine ⟨_, ps_asg p pg (by cases e' <;> rfl) (by cases e' <;> first | rfl | exact absurd rfl (hnt _ _ _)) (by rfl), fun w m H σ env Q hw hr he hp => ?_⟩
  simp only [evS] at hp
  refine k w m H σ env _ hw hr he (posts_bind hp fun v m1 w1 H1 x hq_m1 l1 r1 v1 q => ?_)
  split at q
  · rename_i xd
    split at q
    · rename_i env' hs
      exact kg w1 m1 H1 σ env env' x xd _ r1 (he.mono l1) v1 hs fun σ' he' _ _ => q.next r1 he'
    · exact q.elim
  · exact q.elim
/-- o[i] = v -/
theorem js_sidx {o' i' v' : Expr} {o i v : E} {tpos pos : Pos} (hu : X.A.units + 65 < cLine) (ho : JE c X o' o) (hi : JE c X i' i) (hv : JE c X v' v) (hok : okx i' = true) : JS c own X (.Assign [.Subscript o' i' tpos] v' pos) (.sidx o i v) := by
  obtain ⟨to, po, ko⟩ := ho
  obtain ⟨ti, pi, ki⟩ := hi
  obtain ⟨tv, pv, kv⟩ := hv
  have hset : PSet X (fun o i v H Q => rSetL o i v H Q ∨ rSetD o i v H Q) := fun pins s σ H o i v ov iv u Q I r1 r2 r3 h => h.elim (set_list pins s σ H o i v ov iv u Q I r1 r2 r3) (set_dict (by omega) pins s σ H o i v ov iv u Q I r1 r2 r3)
  refine ⟨_, ps_asg pv (pg_sub po pi hset (by intro z; cases i' <;> first | rfl | exact absurd hok Bool.false_ne_true)) (by cases v' <;> rfl) (by rfl) (by rfl), fun w m H σ env Q hw hr he hp => ?_⟩
  simp only [evS] at hp
  refine kv w m H σ env _ hw hr he (posts_bind hp fun vv m1 w1 H1 x hq_m1 l1 r1 v1 q1 => ?_)
  refine ko w1 m1 H1 σ env _ (hw.trans l1) r1 (he.mono l1) (posts_bind q1 fun vo m2 w2 H2 xo hq_m2 l2 r2 v2 q2 => ?_)
  refine ki w2 m2 H2 σ env _ ((hw.trans l1).trans l2) r2 ((he.mono l1).mono l2) (posts_bind q2 fun vi m3 w3 H3 xi hq_m3 l3 r3 v3 q3 => ?_)
  have hev := ((he.mono l1).mono l2).mono l3
  split at q3
  · rename_i dx
    have vx : Rp c.Y.K w3.I x dx := (v1.mono l2).mono l3
    have vo' := v2.mono l3
    unfold setIdx at q3
    split at q3
    · rename_i a di
      obtain ⟨ad, ha, rfl⟩ := vo'
      split at q3
      · rename_i l j hm
        obtain ⟨g0, xs, g1, g2, g3⟩ := r3.obj a ad _ ha hm
        have hij := RV.int v3
        subst hij
        have done : ∀ jn : Nat, jn < l.length → ixN xs.length j = some jn → PostS c own w3 (.ok (.next env) (m3.set a (.lst (l.set jn dx)))) Q → rSetL (.ref ad) (.int j) x H3 (fun H => Q.nx σ H) := fun jn hj hx hq =>
          ⟨ad, xs, j, jn, rfl, rfl, g1, hx, hq.next (r3.write (o' := .lst (l.set jn dx)) ha g1 trivial trivial ⟨xs.set jn x, upd_same, by rw [List.length_set]; exact g2, g3.set vx jn⟩ (List.getElem?_eq_some_iff.mp hm).1) hev⟩
        split at q3
        · rename_i h0
          split at q3
          · rename_i hlt
            exact .inl (done j.toNat hlt (by unfold ixN; rw [g3.length, if_pos h0, if_pos (by omega)]) q3)
          · exact q3.elim
        · rename_i h0
          split at q3
          · rename_i hlt
            exact .inl (done (j + l.length).toNat (by omega) (by unfold ixN; rw [g3.length, if_neg h0, if_pos hlt]) q3)
          · exact q3.elim
      · rename_i k x1 k2 kvs hm
        split at q3
        · rename_i k0 hk
          split at q3
          · rename_i hz
            obtain ⟨g0, ks, g1, g2⟩ := r3.obj a ad _ ha hm
            have := toKey_rp (show Rp c.Y.K w3.I xi k from v3) hk
            subst this
            have kr := kvR_of g2
            refine .inr ⟨ad, _, rfl, DPut.k g1 (by rw [kvR_len kr]; exact hz), ?_⟩
            exact q3.next (r3.write (o' := .dict (putK kvs k0 dx)) ha g1 trivial trivial ⟨_, upd_same, kvR_to (kvR_put kr vx)⟩ (List.getElem?_eq_some_iff.mp hm).1) hev
          · exact q3.elim
        · exact q3.elim
      · exact q3.elim
    · exact q3.elim
  · exact q3.elim
end
end Kp
end

section
set_option Elab.async false
set_option linter.all false
set_option maxRecDepth 100000
set_option maxHeartbeats 4000077
/-! D13: does a term of the small language stand for a term of the text? -/
namespace Kp
open PySem
open PySem.Spec
open PyProof.Rows
open L2
/-- what is known of a def's names -/
structure Ctx where
  N : List Str
  sc : Scope
  fn : Bool
  fnBlk : List (Str × NameKind)
  defs : List (Str × Nat)
  ow : List Nat
  globs : List Str
def Ctx.fnOk (Γ : Ctx) (x : Str) : Bool := if Γ.fn then true else Γ.fnBlk.lookup x == some .cell
def Ctx.blk (Γ : Ctx) (scope : Scope) : Ctx := { Γ with sc := relS scope Γ.sc, fn := false, fnBlk := scope.names }
def visB (sc : Scope) (x : Str) : Bool := decide (sc.names.lookup x = some .local) || (decide (sc.names.lookup x = some .cell) || decide (sc.names.lookup x = some .free))
def locB (sc : Scope) (x : Str) : Bool := decide (sc.names.lookup x = some .local) || decide (sc.names.lookup x = some .cell)
def glB (sc : Scope) (x : Str) : Bool := decide (sc.names.lookup x = some .globalImplicit)
def ndB (x : Str) : Bool := !(x == ("__debug__" : Str))
def tgB (Γ : Ctx) (i : Nat) (x : Str) : Bool := decide (Γ.N[i]? = some x) && locB Γ.sc x && (Γ.fnOk x || decide (Γ.sc.names.lookup x = some .local))
def okTgs (Γ : Ctx) : List Nat → List Expr → Bool
  | [], [] => true
  | i :: is, .Name x _ :: es => tgB Γ i x && okTgs Γ is es
  | _, _ => false
def okTg (Γ : Ctx) (tg : Tg) (t' : Expr) : Bool := match tg, t' with
  | .one i, .Name x _ => tgB Γ i x
  | .many is, .Tuple es _ _ => okTgs Γ is es
  | _, _ => false
def biStr : Bi → Str
  | .len => "len" | .int => "int" | .tuple => "tuple" | .list => "list" | .sorted => "sorted" | .max => "max" | .min => "min" | .sum => "sum" | .abs => "abs" | .all => "all" | .dict => "dict" | _ => ""
def biOk : Bi → Bool
  | .len => true | .int => true | .tuple => true | .list => true | .sorted => true | .max => true | .min => true | .sum => true | .abs => true | .all => true | .dict => true | _ => false
def tstB : Expr → Bool
  | .IfExp _ _ _ _ => false
  | _ => true
def isBO : Expr → Bool
  | .BoolOp _ _ _ => true
  | _ => false
def cmpIs (o : Cop) : CmpOp → Bool
  | .Eq => decide (o = .eq) | .NotEq => decide (o = .ne) | .Lt => decide (o = .lt) | .LtE => decide (o = .le) | .Gt => decide (o = .gt) | .GtE => decide (o = .ge) | .In => decide (o = .inn) | .NotIn => decide (o = .nin) | _ => false
def bopIs (o : Bop) : Operator → Bool
  | .Add => decide (o = .add) | .Sub => decide (o = .sub) | .Mult => decide (o = .mul) | .FloorDiv => decide (o = .fdiv) | .Mod => decide (o = .mod) | .Pow => decide (o = .pow) | _ => false
theorem cmpIs_of {o : Cop} {p : CmpOp} (h : cmpIs o p = true) : p = cmpOf o := by
  cases p <;> simp only [cmpIs, decide_eq_true_eq, Bool.false_eq_true] at h <;> subst h <;> rfl
theorem bopIs_of {o : Bop} {p : Operator} (h : bopIs o p = true) : p = opOf o := by
  cases p <;> simp only [bopIs, decide_eq_true_eq, Bool.false_eq_true] at h <;> subst h <;> rfl
def ownOf (N : List Str) (is : List Nat) : List (Str × Nat) := is.filterMap fun i => (N[i]?).map fun x => (x, i)
def mthOk (f : Mt) (nm : Str) (n : Nat) : Bool := match f with
  | .append => decide (nm = ("append" : Str)) && n == 1
  | .pop => decide (nm = ("pop" : Str)) && decide (n < 2)
  | .extend => decide (nm = ("extend" : Str)) && n == 1
  | _ => false
mutual
def okE : E → Ctx → Expr → Bool
  | .var i, Γ, e' => match e' with
    | .Name x _ => decide (Γ.N[i]? = some x) && (visB Γ.sc x && (ndB x && !(x == ("__classdict__" : Str))))
    | _ => false
  | .int i, _, e' => match e' with
    | .Constant (.int j) _ _ => decide (i = j)
    | _ => false
  | .bl i, _, e' => match e' with
    | .Constant (.bool j) _ _ => decide (i = j)
    | _ => false
  | .non, _, e' => match e' with
    | .Constant .none _ _ => true
    | _ => false
  | .str s, _, e' => match e' with
    | .Constant (.str j) _ _ => decide (s = j)
    | _ => false
  | .glb x, Γ, e' => match e' with
    | .Name y _ => decide (x = y) && (glB Γ.sc y && (ndB y && decide (y ∈ Γ.globs)))
    | _ => false
  | .tup es, Γ, e' => match e' with
    | .Tuple es' _ _ => okEs es Γ es' && (es'.all okx && decide (es.length ≤ 1000))
    | _ => false
  | .lst es, Γ, e' => match e' with
    | .List es' _ => okEs es Γ es' && (es'.all okx && decide (es.length ≤ 1000))
    | _ => false
  | .dic es, Γ, e' => match e' with
    | .Dict [] [] _ => match es with | [] => true | _ => false
    | .Dict ks vs _ => okKV es Γ ks vs && (decide (0 < ks.length) && decide (ks.length ≤ 15))
    | _ => false
  | .bop o a b, Γ, e' => match e' with
    | .BinOp a' p b' _ => bopIs o p && (okE a Γ a' && okE b Γ b')
    | _ => false
  | .neg a, Γ, e' => match e' with
    | .UnaryOp .USub a' _ => okE a Γ a'
    | _ => false
  | .cmp o a b, Γ, e' => match e' with
    | .Compare a' [p] [b'] _ => cmpIs o p && (okE a Γ a' && (okE b Γ b' && okx b'))
    | _ => false
  | .chn o p a b d, Γ, e' => match e' with
    | .Compare a' [o', p'] [b', d'] _ => cmpIs o o' && (cmpIs p p' && (okE a Γ a' && (okE b Γ b' && (okE d Γ d' && !(lastMarks [o', p'] [b', d'])))))
    | _ => false
  | .isN a, Γ, e' => match e' with
    | .Compare a' [.Is] [.Constant .none _ _] _ => okE a Γ a'
    | _ => false
  | .notN a, Γ, e' => match e' with
    | .Compare a' [.IsNot] [.Constant .none _ _] _ => okE a Γ a'
    | _ => false
  | .land a b, Γ, e' => match e' with
    | .BoolOp .And [a', b'] _ => okE a Γ a' && (tstB a' && (okE b Γ b' && tstB b'))
    | .BoolOp .And (a' :: b' :: d' :: r) pos => okE a Γ a' && (tstB a' && okE b Γ (.BoolOp .And (b' :: d' :: r) pos))
    | _ => false
  | .lor a b, Γ, e' => match e' with
    | .BoolOp .Or [a', b'] _ => okE a Γ a' && (tstB a' && (okE b Γ b' && tstB b'))
    | .BoolOp .Or (a' :: b' :: d' :: r) pos => okE a Γ a' && (tstB a' && okE b Γ (.BoolOp .Or (b' :: d' :: r) pos))
    | _ => false
  | .lnot a, Γ, e' => match e' with
    | .UnaryOp .Not a' _ => okE a Γ a' && tstB a'
    | _ => false
  | .ite d a b, Γ, e' => match e' with
    | .IfExp d' a' b' _ => okE d Γ d' && (tstB d' && (okE a Γ a' && okE b Γ b'))
    | _ => false
  | .call f es, Γ, e' => match e' with
    | .Call (.Name x _) (e0 :: r0) [] _ => decide (Γ.defs.lookup x = some f) && (glB Γ.sc x && (ndB x && ((e0 :: r0).all okx && okEs es Γ (e0 :: r0))))
    | _ => false
  | .bi f es, Γ, e' => match e' with
    | .Call (.Name x _) (e0 :: r0) [] _ => biOk f && (decide (x = biStr f) && (glB Γ.sc x && ((e0 :: r0).all okx && okEs es Γ (e0 :: r0))))
    | _ => false
  | .mth f o es, Γ, e' => match e' with
    | .Call (.Attribute o' nm apos) es' [] cpos => mthOk f nm es'.length && (notCall o' && ((apos.endLine == cpos.line) && (okE o Γ o' && (es'.all okx && okEs es Γ es'))))
    | _ => false
  | .idx a b, Γ, e' => match e' with
    | .Subscript a' b' _ => okx b' && (okE a Γ a' && okE b Γ b')
    | _ => false
  | .slc a hl hh lo hi, Γ, e' => match e' with
    | .Subscript a' (.Slice lo' hi' none _) _ => okE a Γ a' && ((match lo' with | none => !hl | some l => hl && okE lo Γ l) && (match hi' with | none => !hh | some l => hh && okE hi Γ l))
    | _ => false
  | .rev a, Γ, e' => match e' with
    | .Subscript a' (.Slice none none (some (.UnaryOp .USub (.Constant (.int 1) _ _) _)) _) _ => okE a Γ a'
    | _ => false
  | .comp elt tg it ifs, Γ, e' => match e' with
    | .ListComp elt' [⟨tg', it', ifs', 0⟩] scope _ => okTg (Γ.blk scope) tg tg' && (okIt it Γ tg' it' && (okx it' && (decide (ifs'.length ≤ 1) && (ifs'.all tstB && (okEs ifs (Γ.blk scope) ifs' && (okE elt (Γ.blk scope) elt' &&
        (blkC Γ.N Γ.sc scope (ownOf Γ.N (tgSlots tg)) && ((tgSlots tg).all fun i => decide (i ∈ (ownOf Γ.N (tgSlots tg)).map (·.2)))))))))) 
    | _ => false
  | .compI _ _ _ _, _, _ => false
  | .isi a ts, Γ, e' => match ts, e' with
    | [T], .Call (.Name f _) [a', .Name t _] [] _ => decide (f = ("isinstance" : Str)) && (decide (t = tyStr T) && (glB Γ.sc f && (glB Γ.sc t && (okx a' && okE a Γ a'))))
    | [T, U], .Call (.Name f _) [a', .Tuple [.Name t _, .Name u _] _ _] [] _ => decide (f = ("isinstance" : Str)) && (decide (t = tyStr T) && (decide (u = tyStr U) && (glB Γ.sc f && (glB Γ.sc t && (glB Γ.sc u && (okx a' && okE a Γ a'))))))
    | _, _ => false
  | .lrg1 a, Γ, e' => match e' with
    | .Call (.Name f _) [.Call (.Name g _) [a'] [] _] [] _ => decide (f = ("list" : Str)) && (decide (g = ("range" : Str)) && (glB Γ.sc f && (glB Γ.sc g && (okx a' && okE a Γ a'))))
    | _ => false
  | .lrg2 a b, Γ, e' => match e' with
    | .Call (.Name f _) [.Call (.Name g _) [a', b'] [] _] [] _ => decide (f = ("list" : Str)) && (decide (g = ("range" : Str)) && (glB Γ.sc f && (glB Γ.sc g && (okx a' && (okx b' && (okE a Γ a' && okE b Γ b'))))))
    | _ => false
  | .bad, _, e' => okx e' && (match e' with | .BoolOp _ _ _ => false | .UnaryOp .Not _ _ => false | .IfExp _ _ _ _ => false | .Compare _ _ _ _ => false | .ListComp _ _ _ _ => false | _ => true)
def okEs : List E → Ctx → List Expr → Bool
  | [], _, es' => match es' with | [] => true | _ => false
  | e :: r, Γ, es' => match es' with | e' :: r' => okE e Γ e' && okEs r Γ r' | _ => false
def okKV : List E → Ctx → List (Option Expr) → List Expr → Bool
  | [], _, ks, vs => match ks, vs with | [], [] => true | _, _ => false
  | [_], _, _, _ => false
  | k :: v :: r, Γ, ks, vs => match ks, vs with
    | some k' :: ks', v' :: vs' => okE k Γ k' && (okE v Γ v' && okKV r Γ ks' vs')
    | _, _ => false
def okIt : It → Ctx → Expr → Expr → Bool
  | .seq e, Γ, _, e' => okE e Γ e'
  | .rng a, Γ, _, e' => match e' with
    | .Call (.Name f _) [a'] [] _ => decide (f = ("range" : Str)) && (glB Γ.sc f && (okx a' && okE a Γ a'))
    | _ => false
  | .rng2 a b, Γ, _, e' => match e' with
    | .Call (.Name f _) [a', b'] [] _ => decide (f = ("range" : Str)) && (glB Γ.sc f && (okx a' && (okx b' && (okE a Γ a' && okE b Γ b'))))
    | _ => false
  | .enm a, Γ, t', e' => match t', e' with
    | .Tuple _ _ _, .Call (.Name f _) [a'] [] _ => decide (f = ("enumerate" : Str)) && (glB Γ.sc f && (okx a' && okE a Γ a'))
    | _, _ => false
  | .zip a b, Γ, t', e' => match t', e' with
    | .Tuple _ _ _, .Call (.Name f _) [a', b'] [] _ => decide (f = ("zip" : Str)) && (glB Γ.sc f && (okx a' && (okx b' && (okE a Γ a' && okE b Γ b'))))
    | _, _ => false
end
/-- what it makes is new -/
def isF (Γ : Ctx) : E → Bool
  | .lst _ => true
  | .dic _ => true
  | .bop _ _ _ => true
  | .comp _ _ _ _ => true
  | .bi _ _ => true
  | .slc _ _ _ _ _ => true
  | .rev _ => true
  | .lrg1 _ => true
  | .lrg2 _ _ => true
  | .call f _ => Γ.ow.contains f
  | _ => false
end Kp
end

section
set_option Elab.async false
set_option linter.all false
set_option maxRecDepth 100000
set_option maxHeartbeats 8000077
/-! D14: .. then it means it. -/
namespace Kp
open PySem
open PySem.Spec
open PyProof.Rows
open L2
/-- where a def's body, or a block of it, stands -/
structure CxOk (Γ : Ctx) (c : Cfg) (X : Cx) : Prop where
  K : X.K = c.Y.K
  u : X.A.units + 65 < cLine
  calm : X.calm = true
  N : X.N = Γ.N
  nd : Γ.N.Nodup
  sc : X.env.scope = Γ.sc
  kind : Γ.sc.kind = .function
  fn : ∀ x, Γ.fnOk x = true → X.fn x = true
  B : BltOk X
  G : GlobOk c X
  gl : ∀ x ∈ Γ.globs, (c.G x).isSome = true
  tk : Takes X (wish c)
  defs : ∀ x f, Γ.defs.lookup x = some f → CallOk c X x f (Γ.ow.contains f)
theorem CxOk.block {Γ : Ctx} {c : Cfg} {X : Cx} {scope : Scope} (K : CxOk Γ c X) (hk : scope.kind = .function) (s : Shared) (H : Hp) (C : Addr) (cl : List (Str × Addr)) (fp : List Addr) : CxOk (Γ.blk scope) c.low (bk X scope s H C cl fp) where
  K := K.K
  u := K.u
  calm := K.calm
  N := K.N
  nd := K.nd
  sc := by show relS scope X.env.scope = relS scope Γ.sc; rw [K.sc]
  kind := hk
  fn := fun x h => by
    unfold Ctx.fnOk Ctx.blk at h
    simpa using h
  B := K.B
  G := K.G
  gl := K.gl
  tk := takes0.imp fun cls d σ H h => by
    obtain ⟨_, _, _, _, _, _, z⟩ := h
    exact z.elim
  defs := K.defs
/-- what is shown of a term -/
structure Snd (Γ : Ctx) (c : Cfg) (X : Cx) (e' : Expr) (e : E) : Prop where
  je : JE c X e' e
  jf : isF Γ e = true → JF c X e' e
  jt : tstB e' = true → JT c X e' e
  jw : isBO e' = true → JW c X e' e
  jc : ∀ elt' tg' it' ifs' scope pos, e' = .ListComp elt' [⟨tg', it', ifs', 0⟩] scope pos → ∀ i y py spos, X.N[i]? = some y → X.env.scope.names.lookup y = some .local → (py.line == pos.line) = true →
    (scope.names.any fun (n, k) => n == y && (k == .local || k == .cell)) = false → JSet c X (.Assign [.Name y py] e' spos) i e
  ok : okx e' = true
section
variable {Γ : Ctx} {c : Cfg} {X : Cx} {e' a' b' d' : Expr} {e a b d : E}
/-- as a test, a term that is no and, or, not, if, comparison -/
def plainE : Expr → Bool
  | .BoolOp _ _ _ => false
  | .UnaryOp .Not _ _ => false
  | .IfExp _ _ _ _ => false
  | .Compare _ _ _ _ => false
  | .ListComp _ _ _ _ => false
  | _ => true
theorem JO.anyE {o : Option Expr} {e0 : E} (h : JO c X o false e) : JO c X o false e0 := by
  obtain ⟨t, p, k⟩ := h
  exact ⟨t, p, fun w m H σ env Q hw hr he hp => k w m H σ env Q hw hr he (by simpa using hp)⟩
theorem JE.jtp (h : JE c X e' e) (hp : plainE e' = true) (ho : okx e' = true) : JT c X e' e := h.jt fun whole => by
  cases e' <;> first | rfl | exact absurd hp Bool.false_ne_true | exact absurd ho Bool.false_ne_true | skip
  rename_i op _ _
  cases op <;> first | rfl | exact absurd hp Bool.false_ne_true
theorem Snd.of (h : JE c X e' e) (hp : plainE e' = true) (ho : okx e' = true) (hf : isF Γ e = false) : Snd Γ c X e' e where
  je := h
  jf := fun q => by rw [hf] at q; cases q
  jt := fun _ => h.jtp hp ho
  jw := fun q => by cases e' <;> first | exact absurd q Bool.false_ne_true | exact absurd hp Bool.false_ne_true
  jc := fun _ _ _ _ _ _ q => by subst q; exact absurd hp Bool.false_ne_true
  ok := ho
theorem Snd.ofF (h : JF c X e' e) (hp : plainE e' = true) (ho : okx e' = true) : Snd Γ c X e' e where
  je := h.je
  jf := fun _ => h
  jt := fun _ => h.je.jtp hp ho
  jw := fun q => by cases e' <;> first | exact absurd q Bool.false_ne_true | exact absurd hp Bool.false_ne_true
  jc := fun _ _ _ _ _ _ q => by subst q; exact absurd hp Bool.false_ne_true
  ok := ho
theorem Snd.ofC (h : JEt c X e' e) (hp : ∃ a o b p, e' = .Compare a o b p) (hf : isF Γ e = false) : Snd Γ c X e' e := by
  obtain ⟨_, _, _, _, rfl⟩ := hp
  exact ⟨h.je, fun q => (by rw [hf] at q; cases q), fun _ => h.jt, fun q => absurd q Bool.false_ne_true, fun _ _ _ _ _ _ q => (nomatch q), rfl⟩
theorem Snd.ofB (h : JE c X e' e) (hw : JW c X e' e) (hp : ∃ a o b, e' = .BoolOp a o b) (hf : isF Γ e = false) : Snd Γ c X e' e := by
  obtain ⟨_, _, _, rfl⟩ := hp
  exact ⟨h, fun q => (by rw [hf] at q; cases q), fun _ => hw.jt, fun _ => hw, fun _ _ _ _ _ _ q => (nomatch q), rfl⟩
theorem glB_of (K : CxOk Γ c X) {x : Str} (h : glB Γ.sc x = true) : Gl X x := by
  show X.env.scope.names.lookup x = _
  rw [K.sc]
  exact of_decide_eq_true h
theorem visB_of (K : CxOk Γ c X) {x : Str} (h : visB Γ.sc x = true) : Vis X.env.scope x := by
  unfold visB at h
  simp only [Bool.or_eq_true, decide_eq_true_eq] at h
  rw [K.sc]
  exact h
theorem locB_of (K : CxOk Γ c X) {x : Str} (h : locB Γ.sc x = true) : Loc X.env.scope x := by
  unfold locB at h
  simp only [Bool.or_eq_true, decide_eq_true_eq] at h
  rw [K.sc]
  exact h
theorem ndB_of {x : Str} (h : ndB x = true) : (x == ("__debug__" : Str)) = false := by
  unfold ndB at h
  simpa using h
theorem tgB_of (K : CxOk Γ c X) {i : Nat} {x : Str} (h : tgB Γ i x = true) : X.N[i]? = some x ∧ Loc X.env.scope x ∧ (X.fn x = true ∨ X.env.scope.names.lookup x = some .local) := by
  unfold tgB at h
  simp only [Bool.and_eq_true, decide_eq_true_eq, Bool.or_eq_true] at h
  obtain ⟨⟨h1, h2⟩, h3⟩ := h
  refine ⟨by rw [K.N]; exact h1, locB_of K h2, ?_⟩
  rcases h3 with h3 | h3
  · exact .inl (K.fn x h3)
  · exact .inr (by rw [K.sc]; exact h3)
theorem okTgs_of (K : CxOk Γ c X) : ∀ {is : List Nat} {es : List Expr}, okTgs Γ is es = true → Tgts X es is
  | [], es, h => by
    cases es with
    | nil => exact .nil
    | cons _ _ => exact absurd h Bool.false_ne_true
  | i :: is, es, h => by
    cases es with
    | nil => exact absurd h Bool.false_ne_true
    | cons e es =>
      cases e <;> first | exact absurd h Bool.false_ne_true | skip
      rename_i x p
      have h : (tgB Γ i x && okTgs Γ is es) = true := h
      rw [Bool.and_eq_true] at h
      obtain ⟨h1, h2, h3⟩ := tgB_of K h.1
      exact .cons h1 h2 h3 (okTgs_of K h.2)
theorem okTg_of (K : CxOk Γ c X) {tg : Tg} {t' : Expr} (h : okTg Γ tg t' = true) : JG c X t' tg := by
  have nd : X.N.Nodup := by rw [K.N]; exact K.nd
  cases tg with
  | one i =>
    cases t' <;> first | exact absurd h Bool.false_ne_true | skip
    rename_i x p
    obtain ⟨h1, h2, h3⟩ := tgB_of K (show tgB Γ i x = true from h)
    exact jg_one nd h1 h2 h3
  | many is =>
    cases t' <;> first | exact absurd h Bool.false_ne_true | skip
    exact jg_many K.K K.calm nd (okTgs_of K h)
theorem ja_of : ∀ {es : List E} {es' : List Expr}, Paired (fun e' e => Snd Γ c X e' e) es' es → JA c X es' es
  | _, _, .nil => ja_nil
  | _, _, .cons h t => ja_cons h.je (ja_of t) (star_cons h.ok)
theorem paired_len {α β : Type} {F : α → β → Prop} : ∀ {l : List α} {k : List β}, Paired F l k → l.length = k.length
  | _, _, .nil => rfl
  | _, _, .cons _ t => congrArg (· + 1) (paired_len t)
theorem jc_of {es : List E} {es' : List Expr} (h : Paired (fun e' e => Snd Γ c X e' e) es' es) (hl : es'.length ≤ 1) (ht : es'.all tstB = true) : JC c X es' es := by
  cases h with
  | nil => exact jc_nil
  | @cons a b l1 l2 h t =>
    cases t with
    | nil =>
      rw [List.all_cons, Bool.and_eq_true] at ht
      exact jc_one (h.jt ht.1)
    | cons _ _ => simp at hl
theorem jf_dnew {pos : Pos} : JF c X (.Dict [] [] pos) (.dic []) := by
  refine ⟨_, pe_dnewK, fun w m H σ env Q hw hr he hp => fun p hn => ?_⟩
  have e : evE c.Φ c.G (.dic []) env m = .ok (.d (.dict [])) m := by
    simp only [evE, evEs, bind_ok]
    have e1 : (m ++ [Ob.dict []])[m.length]? = some (.dict []) := by
      rw [List.getElem?_append_right (Nat.le_refl _), Nat.sub_self]; rfl
    rw [e1]
    simp [pairsUp, dictD]
  rw [e] at hp
  have f := hr.free hn
  exact hp _ _ _ (Wo.le.refl w) (hr.new hn (.inl trivial)) ⟨p, [], rfl, f.1, f.2, upd_same, .nil⟩
theorem bi_of (K : CxOk Γ c X) {f : Bi} (h : biOk f = true) : ∃ id v, (v = Value.builtin id ∨ v = .type id) ∧ BiR c X f v ∧ bootBuiltins (biStr f) = some v ∧ biStr f ∈ bltNames ∧ biStr f ≠ "__name__" ∧ (biStr f == ("__debug__" : Str)) = false := by
  cases f <;> first | exact absurd h Bool.false_ne_true | skip
  · exact ⟨"len", _, .inl rfl, bi_len, by decide +kernel, by decide +kernel, by decide +kernel, by decide +kernel⟩
  · exact ⟨"int", _, .inr rfl, bi_int, by decide +kernel, by decide +kernel, by decide +kernel, by decide +kernel⟩
  · exact ⟨"tuple", _, .inr rfl, bi_tuple, by decide +kernel, by decide +kernel, by decide +kernel, by decide +kernel⟩
  · exact ⟨"list", _, .inr rfl, bi_list, by decide +kernel, by decide +kernel, by decide +kernel, by decide +kernel⟩
  · exact ⟨"sorted", _, .inl rfl, bi_sorted, by decide +kernel, by decide +kernel, by decide +kernel, by decide +kernel⟩
  · exact ⟨"max", _, .inl rfl, bi_max K.calm, by decide +kernel, by decide +kernel, by decide +kernel, by decide +kernel⟩
  · exact ⟨"min", _, .inl rfl, bi_min K.calm K.u, by decide +kernel, by decide +kernel, by decide +kernel, by decide +kernel⟩
  · exact ⟨"sum", _, .inl rfl, bi_sum K.calm, by decide +kernel, by decide +kernel, by decide +kernel, by decide +kernel⟩
  · exact ⟨"abs", _, .inl rfl, bi_abs, by decide +kernel, by decide +kernel, by decide +kernel, by decide +kernel⟩
  · exact ⟨"all", _, .inl rfl, bi_all K.calm, by decide +kernel, by decide +kernel, by decide +kernel, by decide +kernel⟩
  · exact ⟨"dict", _, .inr rfl, bi_dict K.calm, by decide +kernel, by decide +kernel, by decide +kernel, by decide +kernel⟩
end
end Kp
end

section
set_option Elab.async false
set_option linter.all false
set_option maxRecDepth 100000
set_option maxHeartbeats 8000077
/-! D15: the main induction over terms. -/
namespace Kp
open PySem
open PySem.Spec
open PyProof.Rows
open L2
theorem mth_rec (f : Mt) (hf : f = .append ∨ f = .pop ∨ f = .extend) (o : Val) (m : Store) (h : recvOk f o m = true) : ∃ l, dOf o m = some (.list l) := by
  unfold recvOk at h
  rcases hf with rfl | rfl | rfl
  all_goals
    cases e : dOf o m with
    | none => rw [e] at h; exact absurd h Bool.false_ne_true
    | some x =>
      rw [e] at h
      cases x <;> first | exact ⟨_, rfl⟩ | exact absurd h Bool.false_ne_true
theorem size_ok {n : Nat} (h : n ≤ 1000) : n ≤ sizeLine := by rw [sizeLine_eq]; omega
mutual
theorem okE_snd : ∀ (e : E) (Γ : Ctx) (e' : Expr) (c : Cfg) (X : Cx), CxOk Γ c X → okE e Γ e' = true → Snd Γ c X e' e
  | .var i, Γ, e', c, X, K, h => by
    unfold okE at h
    split at h
    · simp only [Bool.and_eq_true, decide_eq_true_eq, Bool.not_eq_true'] at h
      obtain ⟨h1, h2, h3, h4⟩ := h
      exact .of (je_var (by rw [K.N]; exact h1) (visB_of K h2) (ndB_of h3) h4) rfl rfl rfl
    · exact absurd h Bool.false_ne_true
  | .int i, Γ, e', c, X, K, h => by
    unfold okE at h
    split at h
    · have := of_decide_eq_true h
      subst this
      exact .of je_int rfl rfl rfl
    · exact absurd h Bool.false_ne_true
  | .bl i, Γ, e', c, X, K, h => by
    unfold okE at h
    split at h
    · have := of_decide_eq_true h
      subst this
      exact .of je_bl rfl rfl rfl
    · exact absurd h Bool.false_ne_true
  | .non, Γ, e', c, X, K, h => by
    unfold okE at h
    split at h
    · exact .of je_non rfl rfl rfl
    · exact absurd h Bool.false_ne_true
  | .str i, Γ, e', c, X, K, h => by
    unfold okE at h
    split at h
    · have := of_decide_eq_true h
      subst this
      exact .of je_str rfl rfl rfl
    · exact absurd h Bool.false_ne_true
  | .glb x, Γ, e', c, X, K, h => by
    unfold okE at h
    split at h
    · simp only [Bool.and_eq_true, decide_eq_true_eq] at h
      obtain ⟨rfl, h1, h2, h3⟩ := h
      exact .of (je_glob (glB_of K h1) K.G (K.gl _ h3) (ndB_of h2)) rfl rfl rfl
    · exact absurd h Bool.false_ne_true
  | .tup es, Γ, e', c, X, K, h => by
    unfold okE at h
    split at h
    · simp only [Bool.and_eq_true, decide_eq_true_eq] at h
      exact .of (je_tup (ja_of (okEs_snd es Γ _ c X K h.1)) (size_ok h.2.2)) rfl rfl rfl
    · exact absurd h Bool.false_ne_true
  | .lst es, Γ, e', c, X, K, h => by
    unfold okE at h
    split at h
    · simp only [Bool.and_eq_true, decide_eq_true_eq] at h
      exact .ofF (jf_lst (ja_of (okEs_snd es Γ _ c X K h.1)) (size_ok h.2.2)) rfl rfl
    · exact absurd h Bool.false_ne_true
  | .dic es, Γ, e', c, X, K, h => by
    unfold okE at h
    split at h
    · split at h
      · exact .ofF jf_dnew rfl rfl
      · exact absurd h Bool.false_ne_true
    · rename_i ks vs pos _
      simp only [Bool.and_eq_true, decide_eq_true_eq] at h
      obtain ⟨h1, h2, h3⟩ := h
      obtain ⟨j, k1, k2, k3⟩ := okKV_snd es Γ ks vs c X pos K h1
      exact .ofF (jf_dic j k1 k2 (by intro q; subst q; simp at h2) h3 k3) rfl rfl
    · exact absurd h Bool.false_ne_true
  | .bop o a b, Γ, e', c, X, K, h => by
    unfold okE at h
    split at h
    · simp only [Bool.and_eq_true] at h
      have := bopIs_of h.1
      subst this
      exact .ofF (jf_bop K.K (okE_snd a Γ _ c X K h.2.1).je (okE_snd b Γ _ c X K h.2.2).je) rfl rfl
    · exact absurd h Bool.false_ne_true
  | .neg a, Γ, e', c, X, K, h => by
    unfold okE at h
    split at h
    · exact .of (je_neg (okE_snd a Γ _ c X K h).je) rfl rfl rfl
    · exact absurd h Bool.false_ne_true
  | .cmp o a b, Γ, e', c, X, K, h => by
    unfold okE at h
    split at h
    · simp only [Bool.and_eq_true] at h
      have := cmpIs_of h.1
      subst this
      exact .ofC (je_cmp K.K K.u (okE_snd a Γ _ c X K h.2.1).je (okE_snd b Γ _ c X K h.2.2.1).je (marks_of h.2.2.2)) ⟨_, _, _, _, rfl⟩ rfl
    · exact absurd h Bool.false_ne_true
  | .chn o p a b d, Γ, e', c, X, K, h => by
    unfold okE at h
    split at h
    · simp only [Bool.and_eq_true, Bool.not_eq_true'] at h
      obtain ⟨h1, h2, h3, h4, h5, h6⟩ := h
      have := cmpIs_of h1
      subst this
      have := cmpIs_of h2
      subst this
      exact .ofC (je_chn K.K K.u (okE_snd a Γ _ c X K h3).je (okE_snd b Γ _ c X K h4).je (okE_snd d Γ _ c X K h5).je h6) ⟨_, _, _, _, rfl⟩ rfl
    · exact absurd h Bool.false_ne_true
  | .isN a, Γ, e', c, X, K, h => by
    unfold okE at h
    split at h
    · exact .ofC (je_isN (okE_snd a Γ _ c X K h).je) ⟨_, _, _, _, rfl⟩ rfl
    · exact absurd h Bool.false_ne_true
  | .notN a, Γ, e', c, X, K, h => by
    unfold okE at h
    split at h
    · exact .ofC (je_notN (okE_snd a Γ _ c X K h).je) ⟨_, _, _, _, rfl⟩ rfl
    · exact absurd h Bool.false_ne_true
  | .land a b, Γ, e', c, X, K, h => by
    unfold okE at h
    split at h
    · simp only [Bool.and_eq_true] at h
      obtain ⟨h1, h2, h3, h4⟩ := h
      have sa := okE_snd a Γ _ c X K h1
      have sb := okE_snd b Γ _ c X K h3
      exact .ofB (je_land sa.je (je_one sb.je)) (jw_land (sa.jt h2) (jw_and1 (sb.jt h4))) ⟨_, _, _, rfl⟩ rfl
    · simp only [Bool.and_eq_true] at h
      obtain ⟨h1, h2, h3⟩ := h
      have sa := okE_snd a Γ _ c X K h1
      have sb := okE_snd b Γ _ c X K h3
      exact .ofB (je_land sa.je sb.je) (jw_land (sa.jt h2) (sb.jw rfl)) ⟨_, _, _, rfl⟩ rfl
    · exact absurd h Bool.false_ne_true
  | .lor a b, Γ, e', c, X, K, h => by
    unfold okE at h
    split at h
    · simp only [Bool.and_eq_true] at h
      obtain ⟨h1, h2, h3, h4⟩ := h
      have sa := okE_snd a Γ _ c X K h1
      have sb := okE_snd b Γ _ c X K h3
      exact .ofB (je_lor sa.je (je_one sb.je)) (jw_lor (sa.jt h2) (jw_or1 (sb.jt h4))) ⟨_, _, _, rfl⟩ rfl
    · simp only [Bool.and_eq_true] at h
      obtain ⟨h1, h2, h3⟩ := h
      have sa := okE_snd a Γ _ c X K h1
      have sb := okE_snd b Γ _ c X K h3
      exact .ofB (je_lor sa.je sb.je) (jw_lor (sa.jt h2) (sb.jw rfl)) ⟨_, _, _, rfl⟩ rfl
    · exact absurd h Bool.false_ne_true
  | .lnot a, Γ, e', c, X, K, h => by
    unfold okE at h
    split at h
    · simp only [Bool.and_eq_true] at h
      have sa := okE_snd a Γ _ c X K h.1
      exact ⟨je_lnot sa.je, fun q => (by cases q), fun _ => jt_lnot (sa.jt h.2), fun q => absurd q Bool.false_ne_true, fun _ _ _ _ _ _ q => (nomatch q), rfl⟩
    · exact absurd h Bool.false_ne_true
  | .ite d a b, Γ, e', c, X, K, h => by
    unfold okE at h
    split at h
    · simp only [Bool.and_eq_true] at h
      obtain ⟨h1, h2, h3, h4⟩ := h
      have sd := okE_snd d Γ _ c X K h1
      have sa := okE_snd a Γ _ c X K h3
      have sb := okE_snd b Γ _ c X K h4
      exact ⟨je_ite (sd.jt h2) sa.je sb.je, fun q => (by cases q), fun q => absurd q Bool.false_ne_true, fun q => absurd q Bool.false_ne_true, fun _ _ _ _ _ _ q => (nomatch q), rfl⟩
    · exact absurd h Bool.false_ne_true
  | .call f es, Γ, e', c, X, K, h => by
    unfold okE at h
    split at h
    · rename_i x p e0 r0 pos
      simp only [Bool.and_eq_true, decide_eq_true_eq] at h
      obtain ⟨h1, h2, h3, h4, h5⟩ := h
      have z := okEs_snd es Γ _ c X K h5
      have h6 := h4
      rw [List.all_cons, Bool.and_eq_true] at h6
      have q := je_call (pos := pos) (p := p) K.tk (K.defs _ _ h1) (glB_of K h2) (ja_of z) (ndB_of h3) (by simp) (fun a r e => by cases e; exact star_cons h6.1) (fun a r e => by cases e; exact star_any h6.2)
      cases ho : Γ.ow.contains f with
      | true => exact .ofF (q.1 ho) rfl rfl
      | false => exact .of (q.2 ho) rfl rfl ho
    · exact absurd h Bool.false_ne_true
  | .bi f es, Γ, e', c, X, K, h => by
    unfold okE at h
    split at h
    · rename_i x p e0 r0 pos
      simp only [Bool.and_eq_true, decide_eq_true_eq] at h
      obtain ⟨h1, rfl, h2, h4, h5⟩ := h
      obtain ⟨id, v, k1, k2, k3, k4, k5, k6⟩ := bi_of K h1
      exact .ofF (jf_bi K.K k1 K.B (glB_of K h2) k4 k5 k6 k3 k2 (ja_of (okEs_snd es Γ _ c X K h5)) h4) rfl rfl
    · exact absurd h Bool.false_ne_true
  | .mth f o es, Γ, e', c, X, K, h => by
    unfold okE at h
    split at h
    · rename_i o' nm apos es' cpos
      simp only [Bool.and_eq_true] at h
      obtain ⟨h1, h2, h3, h4, h5, h6⟩ := h
      have so := (okE_snd o Γ _ c X K h4).je
      have z := okEs_snd es Γ _ c X K h6
      cases f <;> first | exact absurd h1 Bool.false_ne_true | skip
      · have h1 : (decide (nm = ("append" : Str)) && es'.length == 1) = true := h1
        simp only [Bool.and_eq_true, decide_eq_true_eq, beq_iff_eq] at h1
        obtain ⟨rfl, hl⟩ := h1
        cases es' with
        | nil => simp at hl
        | cons e0 r0 => exact .of (je_mth K.K PySem.F.slot_list_append PySem.F.type_list_append mr_append (mth_rec _ (.inl rfl)) so h2 h3 (ja_of z) h5 (by omega)) rfl rfl rfl
      · have h1 : (decide (nm = ("pop" : Str)) && decide (es'.length < 2)) = true := h1
        simp only [Bool.and_eq_true, decide_eq_true_eq] at h1
        obtain ⟨rfl, hl⟩ := h1
        cases es' with
        | nil =>
          cases z
          exact .of (je_mth0 K.K PySem.F.slot_list_pop PySem.F.type_list_pop mr_pop (mth_rec _ (.inr (.inl rfl))) so h2 h3) rfl rfl rfl
        | cons e0 r0 => exact .of (je_mth K.K PySem.F.slot_list_pop PySem.F.type_list_pop mr_pop (mth_rec _ (.inr (.inl rfl))) so h2 h3 (ja_of z) h5 (by omega)) rfl rfl rfl
      · have h1 : (decide (nm = ("extend" : Str)) && es'.length == 1) = true := h1
        simp only [Bool.and_eq_true, decide_eq_true_eq, beq_iff_eq] at h1
        obtain ⟨rfl, hl⟩ := h1
        cases es' with
        | nil => simp at hl
        | cons e0 r0 => exact .of (je_mth K.K PySem.F.slot_list_extend PySem.F.type_list_extend mr_extend (mth_rec _ (.inr (.inr rfl))) so h2 h3 (ja_of z) h5 (by omega)) rfl rfl rfl
    · exact absurd h Bool.false_ne_true
  | .idx a b, Γ, e', c, X, K, h => by
    unfold okE at h
    split at h
    · simp only [Bool.and_eq_true] at h
      exact .of (je_idx K.K K.u (okE_snd a Γ _ c X K h.2.1).je (okE_snd b Γ _ c X K h.2.2).je (plainIx_of h.1)) rfl rfl rfl
    · exact absurd h Bool.false_ne_true
  | .slc a hl hh lo hi, Γ, e', c, X, K, h => by
    unfold okE at h
    split at h
    · rename_i a' lo' hi' p2 pos
      simp only [Bool.and_eq_true] at h
      obtain ⟨h1, h2, h3⟩ := h
      have sa := (okE_snd a Γ _ c X K h1).je
      have j1 : JO c X lo' hl lo := by
        cases lo' with
        | none =>
          have : hl = false := by simpa using h2
          subst this
          exact jo_none
        | some l =>
          simp only [Bool.and_eq_true] at h2
          obtain ⟨rfl, h2⟩ := h2
          exact jo_some (okE_snd lo Γ _ c X K h2).je
      have j2 : JO c X hi' hh hi := by
        cases hi' with
        | none =>
          have : hh = false := by simpa using h3
          subst this
          exact jo_none
        | some l =>
          simp only [Bool.and_eq_true] at h3
          obtain ⟨rfl, h3⟩ := h3
          exact jo_some (okE_snd hi Γ _ c X K h3).je
      exact .ofF (jf_slc K.K sa j1 j2) rfl rfl
    · exact absurd h Bool.false_ne_true
  | .rev a, Γ, e', c, X, K, h => by
    unfold okE at h
    split at h
    · exact .ofF (jf_rev (okE_snd a Γ _ c X K h).je) rfl rfl
    · exact absurd h Bool.false_ne_true
  | .comp elt tg it ifs, Γ, e', c, X, K, h => by
    unfold okE at h
    split at h
    · rename_i elt' tg' it' ifs' scope pos
      simp only [Bool.and_eq_true, decide_eq_true_eq] at h
      obtain ⟨h1, h2, h3, h4, h5, h6, h7, h8, h9⟩ := h
      have nd : X.N.Nodup := by rw [K.N]; exact K.nd
      have blk : BlkOk X.N X.env.scope scope (ownOf Γ.N (tgSlots tg)) := by
        rw [K.N, K.sc]
        exact blkOk_by h8
      have KB : ∀ s H C cl fp, CxOk (Γ.blk scope) c.low (bk X scope s H C cl fp) := fun s H C cl fp => K.block blk.kind s H C cl fp
      have B : BlockOk c X scope elt' tg' ifs' elt tg ifs := {
        tg := fun s H C cl fp => okTg_of (KB s H C cl fp) h1
        ifs := fun s H C cl fp => jc_of (okEs_snd ifs _ _ _ _ (KB s H C cl fp) h6) h4 h5
        elt := fun s H C cl fp => (okE_snd elt _ _ _ _ (KB s H C cl fp) h7).je }
      have hi := okIt_snd it Γ tg' it' c X K h2
      have hs1 : ∀ i ∈ (ownOf Γ.N (tgSlots tg)).map (·.2), i ∈ tgSlots tg := fun i hm => by
        obtain ⟨p, hp, rfl⟩ := List.mem_map.mp hm
        obtain ⟨j, hj, e⟩ := List.mem_filterMap.mp hp
        obtain ⟨x, _, e⟩ := Option.map_eq_some_iff.mp e
        subst e
        exact hj
      have hs2 : ∀ i ∈ tgSlots tg, i ∈ (ownOf Γ.N (tgSlots tg)).map (·.2) := fun i hm => of_decide_eq_true (List.all_eq_true.mp h9 i hm)
      have jf := jf_comp (pos := pos) K.calm nd hi blk B hs1 hs2 h3
      refine ⟨jf.je, fun _ => jf, fun _ => jf.je.jt fun whole => rfl, fun q => absurd q Bool.false_ne_true, fun _ _ _ _ _ _ q i y py spos g1 g2 g3 g4 => ?_, rfl⟩
      cases q
      exact jset_lc K.calm nd g1 g2 (by rw [K.sc]; exact K.kind) g3 (.inr trivial) g4 hi blk B hs1 hs2 h3
    · exact absurd h Bool.false_ne_true
  | .compI _ _ _ _, Γ, e', c, X, K, h => by
    unfold okE at h
    exact absurd h Bool.false_ne_true
  | .isi a ts, Γ, e', c, X, K, h => by
    unfold okE at h
    split at h
    · simp only [Bool.and_eq_true, decide_eq_true_eq] at h
      obtain ⟨rfl, rfl, h1, h2, h3, h4⟩ := h
      exact .of (je_isi K.K K.B (glB_of K h1) (glB_of K h2) (okE_snd a Γ _ c X K h4).je h3) rfl rfl rfl
    · simp only [Bool.and_eq_true, decide_eq_true_eq] at h
      obtain ⟨rfl, rfl, rfl, h1, h2, h3, h4, h5⟩ := h
      exact .of (je_isi2 K.K K.B (glB_of K h1) (glB_of K h2) (glB_of K h3) (okE_snd a Γ _ c X K h5).je h4) rfl rfl rfl
    · exact absurd h Bool.false_ne_true
  | .lrg1 a, Γ, e', c, X, K, h => by
    unfold okE at h
    split at h
    · simp only [Bool.and_eq_true, decide_eq_true_eq] at h
      obtain ⟨rfl, rfl, h1, h2, h3, h4⟩ := h
      exact .ofF (jf_lrg1 K.calm K.B (glB_of K h1) (glB_of K h2) (okE_snd a Γ _ c X K h4).je h3) rfl rfl
    · exact absurd h Bool.false_ne_true
  | .lrg2 a b, Γ, e', c, X, K, h => by
    unfold okE at h
    split at h
    · simp only [Bool.and_eq_true, decide_eq_true_eq] at h
      obtain ⟨rfl, rfl, h1, h2, h3, h4, h5, h6⟩ := h
      exact .ofF (jf_lrg2 K.calm K.B (glB_of K h1) (glB_of K h2) (okE_snd a Γ _ c X K h5).je (okE_snd b Γ _ c X K h6).je h3 h4) rfl rfl
    · exact absurd h Bool.false_ne_true
  | .bad, Γ, e', c, X, K, h => by
    unfold okE at h
    rw [Bool.and_eq_true] at h
    have hp : plainE e' = true := by
      have h2 := h.2
      cases e' <;> first | rfl | exact absurd h2 Bool.false_ne_true | skip
      rename_i op _ _
      cases op <;> first | rfl | exact absurd h2 Bool.false_ne_true
    exact .of ⟨fun _ _ _ => False, ⟨fun _ _ _ _ _ _ z => z.elim⟩, fun w m H σ env Q _ _ _ hp => by simp only [evE] at hp; exact hp.elim⟩ hp h.1 rfl
theorem okEs_snd : ∀ (es : List E) (Γ : Ctx) (es' : List Expr) (c : Cfg) (X : Cx), CxOk Γ c X → okEs es Γ es' = true → Paired (fun e' e => Snd Γ c X e' e) es' es
  | [], Γ, es', c, X, K, h => by
    unfold okEs at h
    split at h
    · exact .nil
    · exact absurd h Bool.false_ne_true
  | e :: r, Γ, es', c, X, K, h => by
    unfold okEs at h
    split at h
    · rw [Bool.and_eq_true] at h
      exact .cons (okE_snd e Γ _ c X K h.1) (okEs_snd r Γ _ c X K h.2)
    · exact absurd h Bool.false_ne_true
theorem okKV_snd : ∀ (es : List E) (Γ : Ctx) (ks : List (Option Expr)) (vs : List Expr) (c : Cfg) (X : Cx) (pos : Pos), CxOk Γ c X → okKV es Γ ks vs = true → JP c X pos ks vs es ∧ ks.all (·.isSome) = true ∧ ks.length = vs.length ∧ es.length = 2 * ks.length
  | [], Γ, ks, vs, c, X, pos, K, h => by
    unfold okKV at h
    split at h
    · exact ⟨jp_nil, rfl, rfl, rfl⟩
    · exact absurd h Bool.false_ne_true
  | [_], Γ, ks, vs, c, X, pos, K, h => by
    unfold okKV at h
    exact absurd h Bool.false_ne_true
  | k :: v :: r, Γ, ks, vs, c, X, pos, K, h => by
    unfold okKV at h
    split at h
    · simp only [Bool.and_eq_true] at h
      obtain ⟨h1, h2, h3⟩ := h
      obtain ⟨j, k1, k2, k3⟩ := okKV_snd r Γ _ _ c X pos K h3
      refine ⟨jp_cons (okE_snd k Γ _ c X K h1).je (okE_snd v Γ _ c X K h2).je j, by simpa using k1, by simpa using k2, by simp only [List.length_cons, k3]; omega⟩
    · exact absurd h Bool.false_ne_true
theorem okIt_snd : ∀ (it : It) (Γ : Ctx) (t' e' : Expr) (c : Cfg) (X : Cx), CxOk Γ c X → okIt it Γ t' e' = true → JI c X t' e' it
  | .seq e, Γ, t', e', c, X, K, h => by
    unfold okIt at h
    exact ji_seq K.K (okE_snd e Γ _ c X K h).je
  | .rng a, Γ, t', e', c, X, K, h => by
    unfold okIt at h
    split at h
    · simp only [Bool.and_eq_true, decide_eq_true_eq] at h
      obtain ⟨rfl, h1, h2, h3⟩ := h
      exact ji_rng K.B (glB_of K h1) (ja_cons (okE_snd a Γ _ c X K h3).je ja_nil (star_cons h2)) h2
    · exact absurd h Bool.false_ne_true
  | .rng2 a b, Γ, t', e', c, X, K, h => by
    unfold okIt at h
    split at h
    · simp only [Bool.and_eq_true, decide_eq_true_eq] at h
      obtain ⟨rfl, h1, h2, h3, h4, h5⟩ := h
      exact ji_rng2 K.B (glB_of K h1) (ja_cons (okE_snd a Γ _ c X K h4).je (ja_cons (okE_snd b Γ _ c X K h5).je ja_nil (star_cons h3)) (star_cons h2)) h2 h3
    · exact absurd h Bool.false_ne_true
  | .enm a, Γ, t', e', c, X, K, h => by
    unfold okIt at h
    split at h
    · simp only [Bool.and_eq_true, decide_eq_true_eq] at h
      obtain ⟨rfl, h1, h2, h3⟩ := h
      exact ji_enm K.K K.B (glB_of K h1) (ja_cons (okE_snd a Γ _ c X K h3).je ja_nil (star_cons h2)) h2
    · exact absurd h Bool.false_ne_true
  | .zip a b, Γ, t', e', c, X, K, h => by
    unfold okIt at h
    split at h
    · simp only [Bool.and_eq_true, decide_eq_true_eq] at h
      obtain ⟨rfl, h1, h2, h3, h4, h5⟩ := h
      exact ji_zip K.K K.B (glB_of K h1) (ja_cons (okE_snd a Γ _ c X K h4).je (ja_cons (okE_snd b Γ _ c X K h5).je ja_nil (star_cons h3)) (star_cons h2)) h2 h3
    · exact absurd h Bool.false_ne_true
end
end Kp
end

section
set_option Elab.async false
set_option linter.all false
set_option maxRecDepth 100000
set_option maxHeartbeats 8000077
/-! D16: statements, checked. -/
namespace Kp
open PySem
open PySem.Spec
open PyProof.Rows
open L2
theorem star_no : ∀ (e : Expr), okx e = true → (match e with | .Starred .. => true | _ => false) = false := fun e h => by
  cases e <;> first | rfl | exact absurd h Bool.false_ne_true
theorem sw_par2 {x y : Str} {px py pt pt2 : Pos} {a b : Expr} {kt k2 : Nat} {env : PySem.Env} (hk : env.scope.kind = .function) (hx : env.scope.names.lookup x = some .local) (hy : env.scope.names.lookup y = some .local)
    (hl : (py.line == px.line) = true) (hxy : x ≠ y) (ha : okx a = true) (hb : okx b = true) (hf : (foldedForSure 8 a && foldedForSure 8 b) = false) (hc : (constantsAlone 8 a && constantsAlone 8 b) = false) :
    swappedStores [.Tuple [.Name x px, .Name y py] kt pt] (.Tuple [a, b] k2 pt2) env = pure (some [x, y]) := by
  have kx : env.kindOf x = some .local := hx
  have ky : env.kindOf y = some .local := hy
  have hbk : env.blockKind = .function := by unfold Env.blockKind; rw [hk]; rfl
  have hl' : py.line = px.line := by simpa using hl
  have h1 : (Expr.Name x px).pos = px := rfl
  have hd : [x, y].eraseDups = [x, y] := by
    rw [List.eraseDups_cons]
    have : List.filter (fun b => !b == x) [y] = [y] := by simp [Ne.symm hxy]
    rw [this, List.eraseDups_cons]
    rfl
  have hfm : List.filterMap (fun e : Expr => match e with
      | .Name id pos => if env.kindOf id = some .local ∧ pos.line = px.line then some id else none
      | _ => none) [Expr.Name x px, Expr.Name y py] = [x, y] := by
    simp [kx, ky, hl']
  unfold swappedStores
  simp [hbk, hf, hc, h1]
  generalize hL : List.filterMap (β := Str) _ [Expr.Name x px, Expr.Name y py] = L
  have e : L = [x, y] := hL.symm.trans hfm
  subst e
  refine (if_neg ?_).trans ?_
  · rintro (h | h)
    · exact Bool.noConfusion ((star_no a ha).symm.trans h)
    · exact Bool.noConfusion ((star_no b hb).symm.trans h)
  · simp [hd]
theorem sw_par3 {x y z : Str} {px py pz pt pt2 : Pos} {a b d : Expr} {kt k2 : Nat} {env : PySem.Env} (hk : env.scope.kind = .function) (hx : env.scope.names.lookup x = some .local) (hy : env.scope.names.lookup y = some .local) (hz : env.scope.names.lookup z = some .local)
    (hl : (py.line == px.line) = true) (hl2 : (pz.line == px.line) = true) (hxy : x ≠ y) (hxz : x ≠ z) (hyz : y ≠ z) (ha : okx a = true) (hb : okx b = true) (hdx : okx d = true) (hf : (foldedForSure 8 a && (foldedForSure 8 b && foldedForSure 8 d)) = false) (hc : (constantsAlone 8 a && (constantsAlone 8 b && constantsAlone 8 d)) = false) :
    swappedStores [.Tuple [.Name x px, .Name y py, .Name z pz] kt pt] (.Tuple [a, b, d] k2 pt2) env = pure (some [x, y, z]) := by
  have kx : env.kindOf x = some .local := hx
  have ky : env.kindOf y = some .local := hy
  have kz : env.kindOf z = some .local := hz
  have hbk : env.blockKind = .function := by unfold Env.blockKind; rw [hk]; rfl
  have hl' : py.line = px.line := by simpa using hl
  have hl2' : pz.line = px.line := by simpa using hl2
  have h1 : (Expr.Name x px).pos = px := rfl
  have hd : [x, y, z].eraseDups = [x, y, z] := by
    rw [List.eraseDups_cons]
    have : List.filter (fun b => !b == x) [y, z] = [y, z] := by simp [Ne.symm hxy, Ne.symm hxz]
    rw [this, List.eraseDups_cons]
    have : List.filter (fun b => !b == y) [z] = [z] := by simp [Ne.symm hyz]
    rw [this, List.eraseDups_cons]
    rfl
  have hfm : List.filterMap (fun e : Expr => match e with
      | .Name id pos => if env.kindOf id = some .local ∧ pos.line = px.line then some id else none
      | _ => none) [Expr.Name x px, Expr.Name y py, Expr.Name z pz] = [x, y, z] := by
    simp [kx, ky, kz, hl', hl2']
  unfold swappedStores
  simp [hbk, hf, hc, h1]
  generalize hL : List.filterMap (β := Str) _ [Expr.Name x px, Expr.Name y py, Expr.Name z pz] = L
  have e : L = [x, y, z] := hL.symm.trans hfm
  subst e
  refine (if_neg ?_).trans ?_
  · rintro (h | h | h)
    · exact Bool.noConfusion ((star_no a ha).symm.trans h)
    · exact Bool.noConfusion ((star_no b hb).symm.trans h)
    · exact Bool.noConfusion ((star_no d hdx).symm.trans h)
  · simp [hd]
section
variable {c : Cfg} {own : Bool} {X : Cx} {e' a' b' d' : Expr} {e a b d : E}
/-! several names at once -/
def JPa (c : Cfg) (X : Cx) (es' : List Expr) (is : List (Nat × Bool)) (es : List E) : Prop := ∃ t : TA, PA X es' t ∧ ∀ w m H (σ : L2.St) env Q, c.w0.le w → Rl c.Y w m H → EnvR c.Y.K w env σ → PostG c w (rVs c) (evPar c.Φ c.G is es env m) Q → t σ H Q
theorem jpa_nil : JPa c X [] [] [] := ⟨_, pa_nil, fun w m H σ env Q hw hr he hp => PostG.here (S := rVs c) (by simpa only [evPar] using hp) hr .nil⟩
theorem jpa_cons {es' : List Expr} {i : Nat} {is : List (Nat × Bool)} {es : List E} (h : JE c X e' e) (hs : JPa c X es' is es) (ho : okx e' = true) : JPa c X (e' :: es') ((i, false) :: is) (e :: es) := by
  obtain ⟨t, p, k⟩ := h
  obtain ⟨u, q, l⟩ := hs
  refine ⟨_, pa_cons p q (star_cons ho), fun w m H σ env Q hw hr he hp => ?_⟩
  simp only [evPar, Bool.false_eq_true, if_false] at hp
  refine k w m H σ env _ hw hr he (post_bind hp fun v m1 w1 H1 x hq1 l1 r1 v1 hp1 => ?_)
  simp only [bind_ok] at hp1
  refine l w1 m1 H1 σ env _ (hw.trans l1) r1 (he.mono l1) (post_bind hp1 fun vs m2 w2 H2 xs hq2 l2 r2 v2 hp2 => ?_)
  exact hp2.here r2 (.cons (v1.mono l2) v2)
theorem jpa_consM {es' : List Expr} {i : Nat} {is : List (Nat × Bool)} {es : List E} (h : JF c X e' e) (hs : JPa c X es' is es) (ho : okx e' = true) : JPa c X (e' :: es') ((i, true) :: is) (e :: es) := by
  obtain ⟨t, p, k⟩ := h
  obtain ⟨u, q, l⟩ := hs
  refine ⟨_, pa_cons p q (star_cons ho), fun w m H σ env Q hw hr he hp => ?_⟩
  simp only [evPar, if_true] at hp
  refine k w m H σ env _ hw hr he (post_bind hp fun v m1 w1 H1 x hq1 l1 r1 v1 hp1 => ?_)
  rcases thaw_cases v m1 with ⟨v', m', hv⟩ | hv
  · rw [hv] at hp1
    simp only [bind_ok] at hp1
    obtain ⟨w2, l2, r2, v2⟩ := thaw_ok r1 v1 hv
    refine l w2 m' H1 σ env _ ((hw.trans l1).trans l2) r2 ((he.mono l1).mono l2) (post_bind (hp1.mono l2) fun vs m3 w3 H3 xs hq3 l3 r3 v3 hp3 => ?_)
    exact hp3.here r3 (.cons (v2.mono l3) v3)
  · rw [hv] at hp1; exact hp1.elim
theorem bind_inv {α β : Type} {r : Out α} {f : α → Store → Out β} {v : β} {m' : Store} (h : r.bind f = .ok v m') : ∃ a m1, r = .ok a m1 ∧ f a m1 = .ok v m' := by
  cases r with
  | ok a m1 => exact ⟨a, m1, rfl, h⟩
  | exc _ _ => cases h
  | stuck => cases h
theorem evPar_len {Φ : Calls} {G : Globs} {env : Env} : ∀ {is : List (Nat × Bool)} {es : List E} {m m' : Store} {vs : List Val}, evPar Φ G is es env m = .ok vs m' → vs.length = is.length
  | [], [], m, m', vs, h => by simp only [evPar] at h; cases h; rfl
  | [], _ :: _, m, m', vs, h => by simp only [evPar] at h; cases h
  | _ :: _, [], m, m', vs, h => by simp only [evPar] at h; cases h
  | p :: is, e :: es, m, m', vs, h => by
    simp only [evPar] at h
    obtain ⟨a, m1, _, h⟩ := bind_inv h
    obtain ⟨a2, m2, _, h⟩ := bind_inv h
    obtain ⟨a3, m3, h3, h⟩ := bind_inv h
    cases h
    exact congrArg (· + 1) (evPar_len h3)
theorem js_par2 {x y : Str} {px py pt pt2 pos : Pos} {kt k2 : Nat} {i j : Nat} {bi bj : Bool} (hc : X.calm = true) (hN : X.N.Nodup) (hi : X.N[i]? = some x) (hj : X.N[j]? = some y) (hij : i ≠ j) (hk : X.env.scope.kind = .function)
    (hx : X.env.scope.names.lookup x = some .local) (hy : X.env.scope.names.lookup y = some .local) (ha : JPa c X [a', b'] [(i, bi), (j, bj)] [a, b])
    (hl : (py.line == px.line) = true) (oa : okx a' = true) (ob : okx b' = true) (hf : (foldedForSure 8 a' && foldedForSure 8 b') = false) (hca : (constantsAlone 8 a' && constantsAlone 8 b') = false) :
    JS c own X (.Assign [.Tuple [.Name x px, .Name y py] kt pt] (.Tuple [a', b'] k2 pt2) pos) (.par [(i, bi), (j, bj)] [a, b]) := by
  obtain ⟨t, p, k⟩ := ha
  have hxy : x ≠ y := fun q => hij (nodup_get hN hi (q ▸ hj))
  refine ⟨_, ps_par hc hN hi hj hij hx hy p (sw_par2 hk hx hy hl hxy oa ob hf hca) (by rfl), fun w m H σ env Q hw hr he hp => ?_⟩
  simp only [evS] at hp
  refine k w m H σ env _ hw hr he (posts_bind hp fun vs m1 w1 H1 xs hq1 l1 r1 v1 q => ?_)
  have hlen := evPar_len hq1
  cases v1 with
  | nil => simp at hlen
  | @cons xa xr va vr r1' r2' =>
    cases r2' with
    | nil => simp at hlen
    | @cons xb xs2 vb vs2 r3' r4' =>
      cases r4' with
      | cons _ _ => simp at hlen
      | nil => exact ⟨xa, xb, rfl, q.next r1 (((he.mono l1).set r1').set r3')⟩
theorem js_par3 {x y z : Str} {px py pz pt pt2 pos : Pos} {kt k2 : Nat} {i j l : Nat} {bi bj bl : Bool} (hc : X.calm = true) (hN : X.N.Nodup) (hi : X.N[i]? = some x) (hj : X.N[j]? = some y) (hl0 : X.N[l]? = some z) (hij : i ≠ j) (hil : i ≠ l) (hjl : j ≠ l) (hk : X.env.scope.kind = .function)
    (hx : X.env.scope.names.lookup x = some .local) (hy : X.env.scope.names.lookup y = some .local) (hz : X.env.scope.names.lookup z = some .local) (ha : JPa c X [a', b', d'] [(i, bi), (j, bj), (l, bl)] [a, b, d])
    (hl : (py.line == px.line) = true) (hl2 : (pz.line == px.line) = true) (oa : okx a' = true) (ob : okx b' = true) (od : okx d' = true) (hf : (foldedForSure 8 a' && (foldedForSure 8 b' && foldedForSure 8 d')) = false) (hca : (constantsAlone 8 a' && (constantsAlone 8 b' && constantsAlone 8 d')) = false) :
    JS c own X (.Assign [.Tuple [.Name x px, .Name y py, .Name z pz] kt pt] (.Tuple [a', b', d'] k2 pt2) pos) (.par [(i, bi), (j, bj), (l, bl)] [a, b, d]) := by
  obtain ⟨t, p, k⟩ := ha
  have hxy : x ≠ y := fun q => hij (nodup_get hN hi (q ▸ hj))
  have hxz : x ≠ z := fun q => hil (nodup_get hN hi (q ▸ hl0))
  have hyz : y ≠ z := fun q => hjl (nodup_get hN hj (q ▸ hl0))
  refine ⟨_, ps_par3 hc hN hi hj hl0 hij hil hjl hx hy hz p (sw_par3 hk hx hy hz hl hl2 hxy hxz hyz oa ob od hf hca) (by rfl), fun w m H σ env Q hw hr he hp => ?_⟩
  simp only [evS] at hp
  refine k w m H σ env _ hw hr he (posts_bind hp fun vs m1 w1 H1 xs hq1 l1 r1 v1 q => ?_)
  have hlen := evPar_len hq1
  cases v1 with
  | nil => simp at hlen
  | @cons xa xr va vr r1' r2' =>
    cases r2' with
    | nil => simp at hlen
    | @cons xb xs2 vb vs2 r3' r4' =>
      cases r4' with
      | nil => simp at hlen
      | @cons xc xs3 vc vs3 r5' r6' =>
        cases r6' with
        | cons _ _ => simp at hlen
        | nil => exact ⟨xa, xb, xc, rfl, q.next r1 ((((he.mono l1).set r1').set r3').set r5')⟩
end
def compSet (Γ : Ctx) (y : Str) (py : Pos) (e' : Expr) : Bool := match e' with
  | .ListComp _ [⟨_, _, _, 0⟩] scope pos => decide (Γ.sc.names.lookup y = some .local) && ((py.line == pos.line) && !(scope.names.any fun (n, k) => n == y && (k == .local || k == .cell)))
  | _ => false
def notTup (e' : Expr) : Bool := match e' with
  | .Tuple _ _ _ => false
  | _ => true
def parT (Γ : Ctx) (i : Nat) (x : Str) : Bool := decide (Γ.N[i]? = some x) && decide (Γ.sc.names.lookup x = some .local)
def okPar (Γ : Ctx) : List (Nat × Bool) → List E → List Expr → Bool
  | [], [], [] => true
  | p :: is, e :: es, e' :: es' => okE e Γ e' && ((!p.2 || isF Γ e) && okPar Γ is es es')
  | _, _, _ => false
mutual
def okS : S → Ctx → Bool → Stmt → Bool
  | .exp e, Γ, _, s' => match s' with
    | .Expr e' _ => okE e Γ e' && !isComp e'
    | _ => false
  | .set i e, Γ, _, s' => match s' with
    | .Assign [.Name y py] e' _ => tgB Γ i y && (okE e Γ e' && (!isComp e' || (isF Γ e && compSet Γ y py e')))
    | _ => false
  | .setM i e, Γ, _, s' => match s' with
    | .Assign [.Name y py] e' _ => tgB Γ i y && (okE e Γ e' && (isF Γ e && (!isComp e' || compSet Γ y py e')))
    | _ => false
  | .unp is e, Γ, _, s' => match s' with
    | .Assign [.Tuple es _ _] e' _ => okTgs Γ is es && (okE e Γ e' && notTup e')
    | _ => false
  | .par is es, Γ, _, s' => match is, s' with
    | [(i, bi), (j, bj)], .Assign [.Tuple [.Name x px, .Name y py] _ _] (.Tuple [a', b'] _ _) _ => decide (i ≠ j) && (parT Γ i x && (parT Γ j y && ((py.line == px.line) && (!(foldedForSure 8 a' && foldedForSure 8 b') && (!(constantsAlone 8 a' && constantsAlone 8 b') && okPar Γ [(i, bi), (j, bj)] es [a', b'])))))
    | [(i, bi), (j, bj), (l, bl)], .Assign [.Tuple [.Name x px, .Name y py, .Name z pz] _ _] (.Tuple [a', b', d'] _ _) _ => decide (i ≠ j) && (decide (i ≠ l) && (decide (j ≠ l) && (parT Γ i x && (parT Γ j y && (parT Γ l z && ((py.line == px.line) && ((pz.line == px.line) &&
        (!(foldedForSure 8 a' && (foldedForSure 8 b' && foldedForSure 8 d')) && (!(constantsAlone 8 a' && (constantsAlone 8 b' && constantsAlone 8 d')) && okPar Γ [(i, bi), (j, bj), (l, bl)] es [a', b', d'])))))))))
    | _, _ => false
  | .sidx o i v, Γ, _, s' => match s' with
    | .Assign [.Subscript o' i' _] v' _ => okE o Γ o' && (okE i Γ i' && (okE v Γ v' && okx i'))
    | _ => false
  | .ife d a b, Γ, own, s' => match s' with
    | .If d' a' b' _ => okE d Γ d' && (tstB d' && (okSs a Γ own a' && okSs b Γ own b'))
    | _ => false
  | .whl d b, Γ, own, s' => match s' with
    | .While d' b' [] _ => okE d Γ d' && (tstB d' && okSs b Γ own b')
    | _ => false
  | .forr tg it b, Γ, own, s' => match s' with
    | .For tg' it' b' [] _ => okTg Γ tg tg' && (okIt it Γ tg' it' && (okx it' && okSs b Γ own b'))
    | _ => false
  | .ret e, Γ, own, s' => match s' with
    | .Return (some e') _ => okE e Γ e' && (!own || isF Γ e)
    | _ => false
  | .retN, _, _, s' => match s' with
    | .Return none _ => true
    | _ => false
  | .rse _ _, _, _, _ => false
  | .pass, _, _, s' => match s' with
    | .Pass _ => true
    | _ => false
  | .bad, _, _, _ => true
def okSs : List S → Ctx → Bool → List Stmt → Bool
  | [], _, _, s' => match s' with | [] => true | _ => false
  | s :: r, Γ, own, ss' => match ss' with | s' :: r' => okS s Γ own s' && okSs r Γ own r' | _ => false
end
theorem okPar_snd {Γ : Ctx} {c : Cfg} {X : Cx} (K : CxOk Γ c X) : ∀ {is : List (Nat × Bool)} {es : List E} {es' : List Expr}, okPar Γ is es es' = true → JPa c X es' is es ∧ es'.all okx = true
  | [], es, es', h => by
    cases es with
    | nil =>
      cases es' with
      | nil => exact ⟨jpa_nil, rfl⟩
      | cons _ _ => exact absurd h Bool.false_ne_true
    | cons _ _ => exact absurd h Bool.false_ne_true
  | p :: is, es, es', h => by
    cases es with
    | nil => exact absurd h Bool.false_ne_true
    | cons e es =>
      cases es' with
      | nil => exact absurd h Bool.false_ne_true
      | cons e' es' =>
        have h : (okE e Γ e' && ((!p.2 || isF Γ e) && okPar Γ is es es')) = true := h
        simp only [Bool.and_eq_true, Bool.or_eq_true, Bool.not_eq_true'] at h
        obtain ⟨h1, h2, h3⟩ := h
        have s := okE_snd e Γ e' c X K h1
        obtain ⟨j, o⟩ := okPar_snd K h3
        refine ⟨?_, by rw [List.all_cons, s.ok, o]; rfl⟩
        obtain ⟨i, b⟩ := p
        cases b with
        | false => exact jpa_cons s.je j s.ok
        | true => exact jpa_consM (s.jf (h2.resolve_left (by simp))) j s.ok
theorem isComp_of {e' : Expr} (h : okx e' = true) (hc : isComp e' = true) : ∃ a b d p, e' = .ListComp a b d p := by
  cases e' <;> first | exact ⟨_, _, _, _, rfl⟩ | exact absurd hc Bool.false_ne_true | exact absurd h Bool.false_ne_true
theorem parT_of {Γ : Ctx} {c : Cfg} {X : Cx} (K : CxOk Γ c X) {i : Nat} {x : Str} (h : parT Γ i x = true) : X.N[i]? = some x ∧ X.env.scope.names.lookup x = some .local := by
  unfold parT at h
  simp only [Bool.and_eq_true, decide_eq_true_eq] at h
  exact ⟨by rw [K.N]; exact h.1, by rw [K.sc]; exact h.2⟩
theorem jset_gen {Γ : Ctx} {c : Cfg} {X : Cx} (K : CxOk Γ c X) {i : Nat} {y : Str} {py spos : Pos} {e' : Expr} {e : E} (hi : X.N[i]? = some y) (s : Snd Γ c X e' e) (hc : compSet Γ y py e' = true) : JSet c X (.Assign [.Name y py] e' spos) i e := by
  unfold compSet at hc
  split at hc
  · simp only [Bool.and_eq_true, decide_eq_true_eq, Bool.not_eq_true'] at hc
    obtain ⟨h1, h2, h3⟩ := hc
    exact s.jc _ _ _ _ _ _ rfl i y py spos hi (by rw [K.sc]; exact h1) h2 h3
  · exact absurd hc Bool.false_ne_true
mutual
theorem okS_snd : ∀ (s : S) (Γ : Ctx) (own : Bool) (s' : Stmt) (c : Cfg) (X : Cx), CxOk Γ c X → PassesOwn (model X.prog X.w) X.A X.env X.xe → okS s Γ own s' = true → JS c own X s' s
  | .exp e, Γ, own, s', c, X, K, P, h => by
    unfold okS at h
    split at h
    · simp only [Bool.and_eq_true, Bool.not_eq_true'] at h
      exact js_exp (okE_snd e Γ _ c X K h.1).je h.2
    · exact absurd h Bool.false_ne_true
  | .set i e, Γ, own, s', c, X, K, P, h => by
    unfold okS at h
    split at h
    · simp only [Bool.and_eq_true, Bool.or_eq_true, Bool.not_eq_true'] at h
      obtain ⟨h1, h2, h3⟩ := h
      obtain ⟨g1, g2, g3⟩ := tgB_of K h1
      have s := okE_snd e Γ _ c X K h2
      rcases h3 with h3 | h3
      · exact js_set s.je h3 (by rw [K.N]; exact K.nd) g1 g2 g3
      · exact js_setF (jset_gen K g1 s h3.2)
    · exact absurd h Bool.false_ne_true
  | .setM i e, Γ, own, s', c, X, K, P, h => by
    unfold okS at h
    split at h
    · simp only [Bool.and_eq_true, Bool.or_eq_true, Bool.not_eq_true'] at h
      obtain ⟨h1, h2, h4, h3⟩ := h
      obtain ⟨g1, g2, g3⟩ := tgB_of K h1
      have s := okE_snd e Γ _ c X K h2
      rcases h3 with h3 | h3
      · exact js_setM (jset_of (s.jf h4) h3 (by rw [K.N]; exact K.nd) g1 g2 g3)
      · exact js_setM (jset_gen K g1 s h3)
    · exact absurd h Bool.false_ne_true
  | .unp is e, Γ, own, s', c, X, K, P, h => by
    unfold okS at h
    split at h
    · simp only [Bool.and_eq_true] at h
      obtain ⟨h1, h2, h3⟩ := h
      exact js_unp K.K K.calm (by rw [K.N]; exact K.nd) (okTgs_of K h1) (okE_snd e Γ _ c X K h2).je fun _ _ _ q => by subst q; exact absurd h3 Bool.false_ne_true
    · exact absurd h Bool.false_ne_true
  | .par is es, Γ, own, s', c, X, K, P, h => by
    unfold okS at h
    have nd : X.N.Nodup := by rw [K.N]; exact K.nd
    have hk : X.env.scope.kind = .function := by rw [K.sc]; exact K.kind
    split at h
    · simp only [Bool.and_eq_true, decide_eq_true_eq, Bool.not_eq_true'] at h
      obtain ⟨h1, h2, h3, h4, h5, h6, h7⟩ := h
      obtain ⟨g1, g2⟩ := parT_of K h2
      obtain ⟨g3, g4⟩ := parT_of K h3
      obtain ⟨j, o⟩ := okPar_snd K h7
      simp only [List.all_cons, List.all_nil, Bool.and_true, Bool.and_eq_true] at o
      match es, j, h7 with
      | [a, b], j, _ => exact js_par2 K.calm nd g1 g3 h1 hk g2 g4 j h4 o.1 o.2 h5 h6
      | [], _, q => exact absurd q Bool.false_ne_true
      | [a], _, q => exact absurd q (by simp [okPar])
      | a :: b :: d :: r, _, q => exact absurd q (by simp [okPar])
    · simp only [Bool.and_eq_true, decide_eq_true_eq, Bool.not_eq_true'] at h
      obtain ⟨h1, h1', h1'', h2, h3, h3', h4, h4', h5, h6, h7⟩ := h
      obtain ⟨g1, g2⟩ := parT_of K h2
      obtain ⟨g3, g4⟩ := parT_of K h3
      obtain ⟨g5, g6⟩ := parT_of K h3'
      obtain ⟨j, o⟩ := okPar_snd K h7
      simp only [List.all_cons, List.all_nil, Bool.and_true, Bool.and_eq_true] at o
      match es, j, h7 with
      | [a, b, d], j, _ => exact js_par3 K.calm nd g1 g3 g5 h1 h1' h1'' hk g2 g4 g6 j h4 h4' o.1 o.2.1 o.2.2 h5 h6
      | [], _, q => exact absurd q Bool.false_ne_true
      | [a], _, q => exact absurd q (by simp [okPar])
      | [a, b], _, q => exact absurd q (by simp [okPar])
      | a :: b :: d :: e :: r, _, q => exact absurd q (by simp [okPar])
    · exact absurd h Bool.false_ne_true
  | .sidx o i v, Γ, own, s', c, X, K, P, h => by
    unfold okS at h
    split at h
    · simp only [Bool.and_eq_true] at h
      obtain ⟨h1, h2, h3, h4⟩ := h
      exact js_sidx K.u (okE_snd o Γ _ c X K h1).je (okE_snd i Γ _ c X K h2).je (okE_snd v Γ _ c X K h3).je h4
    · exact absurd h Bool.false_ne_true
  | .ife d a b, Γ, own, s', c, X, K, P, h => by
    unfold okS at h
    split at h
    · simp only [Bool.and_eq_true] at h
      obtain ⟨h1, h2, h3, h4⟩ := h
      exact js_ife ((okE_snd d Γ _ c X K h1).jt h2) (okSs_snd a Γ own _ c X K P h3) (okSs_snd b Γ own _ c X K P h4)
    · exact absurd h Bool.false_ne_true
  | .whl d b, Γ, own, s', c, X, K, P, h => by
    unfold okS at h
    split at h
    · simp only [Bool.and_eq_true] at h
      obtain ⟨h1, h2, h3⟩ := h
      exact js_whl P ((okE_snd d Γ _ c X K h1).jt h2) (okSs_snd b Γ own _ c X K P h3)
    · exact absurd h Bool.false_ne_true
  | .forr tg it b, Γ, own, s', c, X, K, P, h => by
    unfold okS at h
    split at h
    · simp only [Bool.and_eq_true] at h
      obtain ⟨h1, h2, h3, h4⟩ := h
      exact js_for P K.calm (okIt_snd it Γ _ _ c X K h2) (okTg_of K h1) (okSs_snd b Γ own _ c X K P h4) h3
    · exact absurd h Bool.false_ne_true
  | .ret e, Γ, own, s', c, X, K, P, h => by
    unfold okS at h
    split at h
    · simp only [Bool.and_eq_true, Bool.or_eq_true, Bool.not_eq_true'] at h
      have s := okE_snd e Γ _ c X K h.1
      rcases h.2 with h2 | h2
      · exact js_ret s.je h2
      · exact js_retF (s.jf h2)
    · exact absurd h Bool.false_ne_true
  | .retN, Γ, own, s', c, X, K, P, h => by
    unfold okS at h
    split at h
    · exact js_retN
    · exact absurd h Bool.false_ne_true
  | .rse _ _, Γ, own, s', c, X, K, P, h => by
    unfold okS at h
    exact absurd h Bool.false_ne_true
  | .pass, Γ, own, s', c, X, K, P, h => by
    unfold okS at h
    split at h
    · exact js_pass
    · exact absurd h Bool.false_ne_true
  | .bad, Γ, own, s', c, X, K, P, h => js_bad fun env m => by simp only [evS]
theorem okSs_snd : ∀ (s : List S) (Γ : Ctx) (own : Bool) (s' : List Stmt) (c : Cfg) (X : Cx), CxOk Γ c X → PassesOwn (model X.prog X.w) X.A X.env X.xe → okSs s Γ own s' = true → JSs c own X s' s
  | [], Γ, own, s', c, X, K, P, h => by
    unfold okSs at h
    split at h
    · exact jss_nil
    · exact absurd h Bool.false_ne_true
  | s :: r, Γ, own, s', c, X, K, P, h => by
    unfold okSs at h
    split at h
    · rw [Bool.and_eq_true] at h
      exact jss_cons (okS_snd s Γ own _ c X K P h.1) (okSs_snd r Γ own _ c X K P h.2)
    · exact absurd h Bool.false_ne_true
end
end Kp
end

section
set_option Elab.async false
set_option linter.all false
set_option maxRecDepth 100000
set_option maxHeartbeats 8000077
/-! D17: whole defs. -/
namespace Kp
open PySem
open PySem.Spec
open PyProof.Rows
open L2
section
variable {P : Program} {w : World} {K : PySem.W.Frag} {mg : Str → Option Value} {base : Heap}
/-- a def of the text -/
structure Ent where
  x : Str
  qual : Str
  st : Stmt
  fa : Addr
  fd : FuncData
  id : Nat
  fn : Fn
  N : List Str
  ps : List Str
def Ent.Γ (e : Ent) (D : List (Str × Nat)) (O : List Nat) (Gs : List Str) : Ctx := { N := e.N, sc := defScope e.st, fn := true, fnBlk := [], defs := D, ow := O, globs := Gs }
structure EntOk (K : PySem.W.Frag) (mg : Str → Option Value) (B : Nat → Option Fn) (D : List (Str × Nat)) (O : List Nat) (Gs : List Str) (e : Ent) : Prop where
  fn : Fun K e.x e.qual e.st e.fa e.fd
  scope : FnScope e.N e.ps (defScope e.st)
  mg : mg e.x = some (.ref e.fa)
  binds : Binds K e.fd e.ps []
  np : e.ps.length = e.fn.np
  n : e.N.length = e.fn.n
  b : B e.id = some e.fn
  chk : okSs e.fn.body (e.Γ D O Gs) e.fn.own (defBody e.st) = true
structure TabOk (K : PySem.W.Frag) (mg : Str → Option Value) (B : Nat → Option Fn) (G : Globs) (D : List (Str × Nat)) (O : List Nat) (Gs : List Str) (T : List Ent) : Prop where
  ents : ∀ e ∈ T, EntOk K mg B D O Gs e
  defs : ∀ x f, D.lookup x = some f → ∃ e ∈ T, e.x = x ∧ e.id = f ∧ O.contains f = e.fn.own
  glob : ∀ x d, G x = some d → ∃ u v, mg x = some u ∧ RelV v u ∧ Rp K (fun _ => none) v d
  gl : ∀ x ∈ Gs, (G x).isSome = true
  blt : ∀ x ∈ bltNames, mg x = none
theorem start_env {K : PySem.W.Frag} {w : Wo} {f : Fn} {N : List Str} : ∀ {vs : List V} {args : List Val}, RVs K w vs args → N.length = f.n → vs.length ≤ N.length → EnvR K w (startE f args) (L2.start N vs) := fun {vs args} h hn hl => by
  unfold startE L2.start
  have e := h.length
  refine ⟨by simp [e, hn], fun i v q => ?_⟩
  by_cases hi : i < args.length
  · rw [List.getElem?_append_left (by simpa using hi), List.getElem?_map, Option.map_eq_some_iff] at q
    obtain ⟨a, q1, q2⟩ := q
    cases q2
    have key : ∀ {vs : List V} {args : List Val} {i : Nat} {v : Val}, RVs K w vs args → args[i]? = some v → ∃ x, vs[i]? = some x ∧ RV K w x v := by
      intro vs args i v h
      induction h generalizing i with
      | nil => intro q; simp at q
      | cons h1 h2 ih =>
        intro q
        cases i with
        | zero => simp at q; subst q; exact ⟨_, rfl, h1⟩
        | succ i => exact ih (by simpa using q)
    obtain ⟨x, q3, q4⟩ := key h q1
    refine ⟨x, ?_, q4⟩
    rw [List.getElem?_append_left (by rw [List.length_map, e]; exact hi), List.getElem?_map, q3]; rfl
  · rw [List.getElem?_append_right (by simpa using hi)] at q
    have := List.mem_of_getElem? q
    simp at this
/-- what a def tells reaches its asker -/
theorem exit_ok {Y : Wd} {c : Cfg} {own : Bool} {w0 w : Wo} {m m' : Store} {H : Hp} {x : V} {v v' : Val} {n : Nat} (hY : c.Y = Y) (l : w0.le w) (r : Rl Y w m H) (hn : w0.α.length = n) (o : rR c own w H x v) (h : exitV n v m = .ok v' m') :
    ∃ I', Same w0.I I' ∧ Rl Y ⟨I', w0.α⟩ m' H ∧ (if own = true then OwnV Y.K ⟨I', w0.α⟩ H x v' else RV Y.K ⟨I', w0.α⟩ x v') := by
  subst hY
  have r2 := r.cutTo l.pre hn
  unfold exitV at h
  cases v with
  | d xd =>
    cases h
    refine ⟨w.I, l.same, r2, ?_⟩
    cases own with
    | false => exact o
    | true =>
      have o : OwnV c.Y.K w H x (.d xd) := o
      show OwnV c.Y.K ⟨w.I, w0.α⟩ H x (.d xd)
      cases xd with
      | list l0 =>
        obtain ⟨a, xs, h1, h2, h3, h4⟩ := o
        exact ⟨a, xs, h1, h2, fun q => h3 (l.pre.subset q), h4⟩
      | dict l0 =>
        obtain ⟨a, xs, h1, h2, h3, h4⟩ := o
        exact ⟨a, xs, h1, h2, fun q => h3 (l.pre.subset q), h4⟩
      | none => exact o
      | bool _ => exact o
      | int _ => exact o
      | str _ => exact o
      | tuple _ => exact o
  | exc _ _ => cases h
  | loc a =>
    have o : RV c.Y.K w x (.loc a) := o
    obtain ⟨ad, ha, rfl⟩ := o
    simp only at h
    split at h
    · rename_i hlt
      cases h
      refine ⟨w.I, l.same, r2, ?_⟩
      have : w0.α[a]? = some ad := by
        obtain ⟨t, ht⟩ := l.pre
        rw [← ht, List.getElem?_append_left (by omega)] at ha
        exact ha
      cases own <;> exact ⟨ad, this, rfl⟩
    · rename_i hge
      have hna : ad ∉ w0.α := fun q => by
        obtain ⟨i, hi, e⟩ := List.getElem_of_mem q
        have e1 : w.α[i]? = some ad := pre_get l.pre (by rw [List.getElem?_eq_getElem hi, e])
        have := nodup_get r.nd e1 ha
        omega
      split at h
      · rename_i l0 hm
        cases h
        obtain ⟨g0, xs, g1, g2, g3⟩ := r.obj a ad _ ha hm
        cases own with
        | true => exact ⟨w.I, l.same, r2, ad, xs, rfl, g0, hna, g1, g2, g3⟩
        | false =>
          obtain ⟨r3, l3⟩ := r2.freeze (p := ad) g0 hna g1
          exact ⟨_, l.same.trans l3.same, r3, Rp.lst (Rd.of upd_same) g2 (g3.mono l3.same)⟩
      · rename_i kvs hm
        cases h
        obtain ⟨g0, xs, g1, g3⟩ := r.obj a ad _ ha hm
        cases own with
        | true => exact ⟨w.I, l.same, r2, ad, xs, rfl, g0, hna, g1, g3⟩
        | false =>
          obtain ⟨r3, l3⟩ := r2.freeze (p := ad) g0 hna g1
          exact ⟨_, l.same.trans l3.same, r3, Rp.dct upd_same (g3.mono l3.same)⟩
      · cases h
theorem tab_fn {Y : Wd} {B : Nat → Option Fn} {G : Globs} {D : List (Str × Nat)} {O : List Nat} {Gs : List Str} {T : List Ent} (hY : Y.K = K) (OK : TabOk K mg B G D O Gs T) :
    ∀ (k : Nat) (e : Ent), e ∈ T → FnOk P w K mg base (L2.CX P w) k e.fa e.fd e.ps (spOf Y mg (callN B G k) e.id e.fn.own)
  | 0, e, he => by
    refine ⟨fun vs H Q E h => ?_, fun A outer s H args us vs Q E _ _ _ _ h => ?_⟩
    · obtain ⟨_, _, _, _, _, z⟩ := h
      exact z.elim
    · obtain ⟨_, _, _, _, _, z⟩ := h
      exact z.elim
  | k + 1, e, he => by
    have EO := OK.ents e he
    refine EO.fn.okX EO.scope (fun vs H Q E h => ?_) fun cdv A outer s H vs Q E hr h => ?_
    · obtain ⟨wo, m, args, r, rv, z⟩ := h
      simp only [callN, EO.b] at z
      split at z
      · rename_i hl
        rw [EO.np, rv.length]
        by_cases hq : args.length = e.fn.np
        · exact hq
        · exact absurd hl (by rw [if_neg hq]; simp)
      · rename_i hl
        by_cases hq : args.length = e.fn.np
        · rw [EO.np, rv.length]; exact hq
        · exact absurd hl (by rw [if_neg hq]; simp)
      · exact z.elim
    · obtain ⟨wo, m, args, r, rv, z⟩ := h
      have hlen : args.length = e.fn.np := by
        by_cases hq : args.length = e.fn.np
        · exact hq
        · simp only [callN, EO.b, if_neg hq] at z
      simp only [callN, EO.b, if_pos hlen] at z
      -- the exceptions that are let out
      let c : Cfg := { Y := Y, mg := mg, Φ := callN B G k, G := G, w0 := wo, Rx := fun ex m' => ∀ w' H' cls d, wo.le w' → Rl Y w' m' H' → ExR mg ex cls d H' → E cls d H' }
      let X : Cx := cxOf (L2.CX P w) P w K mg base e.N e.qual (defScope e.st) e.fa cdv A outer s H E
      have tk : Takes X (wish c) := (takes_of (X := X) (E := E) rfl rfl rfl rfl).imp fun cls d σ H' q => by
        obtain ⟨w', ex, m', l', r', x', q'⟩ := q
        exact q' w' H' cls d l' r' x'
      have CK : CxOk (e.Γ D O Gs) c X := {
        K := hY.symm
        u := by have := hr.un; show (A.deeper (envOfC e.qual (defScope e.st) s.heap.objs.size e.fa cdv)).units + 65 < cLine; omega
        calm := rfl
        N := rfl
        nd := EO.scope.nd
        sc := rfl
        kind := EO.scope.kind
        fn := fun _ _ => rfl
        B := OK.blt
        G := fun x d q => by
          obtain ⟨u, v, h1, h2, h3⟩ := OK.glob x d q
          exact ⟨u, v, h1, h2, by show Rp Y.K _ v d; rw [hY]; exact h3⟩
        gl := OK.gl
        tk := tk
        defs := fun x f q => by
          obtain ⟨e2, h1, h2, h3, h4⟩ := OK.defs x f q
          have EO2 := OK.ents e2 h1
          refine ⟨k, e2.fa, e2.fd, e2.ps, ?_, hr, ?_, EO2.fn.kp, EO2.binds⟩
          · have := tab_fn (Y := Y) hY OK k e2 h1
            rw [h3] at this
            rw [show (e.Γ D O Gs).ow = O from rfl, h4]
            exact this
          · rw [← h2]; exact EO2.mg }
      obtain ⟨t, ps, kk⟩ := okSs_snd _ _ _ _ c X CK (passes_of (X := X) rfl) EO.chk
      refine ⟨t, ps, ?_⟩
      have hl : vs.length ≤ e.N.length := by
        have h1 := EO.scope.pre
        have h2 : (e.N.take e.ps.length).length = e.ps.length := by rw [h1]
        rw [List.length_take] at h2
        rw [rv.length, hlen, ← EO.np]
        omega
      refine kk wo m H (L2.start e.N vs) (startE e.fn args) _ (Wo.le.refl wo) r (start_env (by show RVs Y.K wo vs args; exact rv) EO.n hl) ?_
      have hn : wo.α.length = m.length := r.len
      show PostS c e.fn.own wo (evSs (callN B G k) G e.fn.body (startE e.fn args) m) _
      cases hq : evSs (callN B G k) G e.fn.body (startE e.fn args) m with
      | stuck => rw [hq] at z; exact z.elim
      | exc ex m' =>
        rw [hq] at z
        exact fun w' H' cls d l' r' x' => z w'.I H' cls d l'.same (r'.cutTo l'.pre hn) x'
      | ok fl m' =>
        rw [hq] at z
        cases fl with
        | next env' =>
          intro w' H' σ' l' r' e'
          refine z w'.I H' .non l'.same (r'.cutTo l'.pre hn) ?_
          cases e.fn.own <;> exact Rp.non
        | ret v =>
          intro w' H' x l' r' o'
          simp only [exitF] at z
          cases hv : exitV m.length v m' with
          | stuck => rw [hv] at z; exact z.elim
          | exc ex m2 =>
            exfalso
            unfold exitV at hv
            split at hv
            · cases hv
            · split at hv
              · cases hv
              · split at hv <;> cases hv
            · cases hv
          | ok v2 m2 =>
            rw [hv] at z
            obtain ⟨I', h1, h2, h3⟩ := exit_ok (c := c) (own := e.fn.own) rfl l' r' hn o' hv
            exact z I' H' x h1 h2 h3
end
end Kp
end

section
set_option Elab.async false
set_option linter.all false
set_option maxRecDepth 100000
set_option maxHeartbeats 8000077
/-! D18: the end of a law. -/
namespace Kp
open PySem
open PySem.Spec
open PyProof.Rows
open L2
theorem fm_congr {α β : Type} {f g : α → Option β} : ∀ {l : List α}, (∀ a ∈ l, f a = g a) → l.filterMap f = l.filterMap g
  | [], _ => rfl
  | a :: r, h => by
    rw [List.filterMap_cons, List.filterMap_cons, h a (by simp), fm_congr (l := r) fun b hb => h b (List.mem_cons_of_mem _ hb)]
theorem zip_look {α : Type} : ∀ {ns : List Str} {us : List α}, ns.Nodup → us.length = ns.length → (ns.filterMap fun n => ((ns.zip us).lookup n).map (n, ·)) = ns.zip us := by
  intro ns
  induction ns with
  | nil => intro us _ _; rfl
  | cons n r ih =>
    intro us nd hl
    cases us with
    | nil => simp at hl
    | cons u us =>
      rw [List.nodup_cons] at nd
      rw [List.zip_cons_cons, List.filterMap_cons]
      have e1 : (((n, u) :: r.zip us).lookup n) = some u := by simp [List.lookup]
      rw [e1]
      simp only [Option.map_some]
      congr 1
      refine (fm_congr fun m hm => ?_).trans (ih nd.2 (by simpa using hl))
      have : m ≠ n := fun q => nd.1 (q ▸ hm)
      have e2 : (m == n) = false := by simpa using this
      simp [List.lookup, e2]
theorem zip_miss {α : Type} {ns : List Str} {us : List α} (hl : us.length = ns.length) : (ns.filter fun n => ((ns.zip us).lookup n).isNone) = [] := by
  rw [List.filter_eq_nil_iff]
  intro n hn h
  have key : ∀ {ns : List Str} {us : List α}, us.length = ns.length → n ∈ ns → (List.lookup n (ns.zip us)).isNone = true → False := by
    intro ns
    induction ns with
    | nil => intro us _ h; simp at h
    | cons m r ih =>
      intro us hl hm hnone
      cases us with
      | nil => simp at hl
      | cons u us =>
        rw [List.zip_cons_cons] at hnone
        by_cases e : n = m
        · subst e; simp [List.lookup] at hnone
        · have e2 : (n == m) = false := by simpa using e
          simp only [List.lookup, e2] at hnone
          exact ih (by simpa using hl) ((List.mem_cons.mp hm).resolve_left e) hnone
  exact key hl hn h
theorem binds_gen {x qual : Str} {body : List Stmt} {scope : Scope} {kV doc pm : Value} {an : Option Addr} {cdv ct : Value} {args : List Arg} {us : List Value} (nd : (args.map (·.arg)).Nodup) (hl : us.length = (args.map (·.arg)).length) :
    bindArgs (PySem.W.fnOf x qual { posonlyargs := [], args := args, vararg := none, kwonlyargs := [], kw_defaults := [], kwarg := none, defaults := [] } body scope .none kV doc pm an cdv ct) ⟨us, []⟩ = pure ((args.map (·.arg)).zip us) := by
  have hs : seqItems? Value.none = pure none := rfl
  have hl2 : ¬ (args.map (·.arg)).length < us.length := by omega
  unfold bindArgs PySem.W.fnOf
  simp [hs]
  have hl3 : ¬ args.length < us.length := by simpa using hl2
  rw [if_neg hl3, if_neg]
  · congr 1
    have z := zip_look nd hl
    rw [List.filterMap_map] at z
    exact z
  · have e : (List.map (fun x => x.arg) ([] : List Arg) ++ List.map (fun x => x.arg) args) = List.map (fun x => x.arg) args := rfl
    rw [e]
    have : List.take ((List.map (fun x => x.arg) args).length - (List.drop ((#[] : Array Value).size - (List.map (fun x => x.arg) args).length) ([] : List Value)).length) (List.map (fun x => x.arg) args) = List.map (fun x => x.arg) args := List.take_of_length_le (by simp)
    rw [this, zip_miss hl]
    simp
/-- a def as the text has it -/
structure SEnt where
  x : Str
  st : Stmt
  fn : Fn
  N : List Str
  ps : List Str
inductive Cst where
  | int (i : Int) | str (s : Str) | tstr (l : List Str)
def Cst.d : Cst → D
  | .int i => .int i
  | .str s => .str s
  | .tstr l => .tuple (l.map .str)
def idsOf : Nat → List SEnt → List (Str × Nat)
  | _, [] => []
  | n, s :: r => (s.x, n) :: idsOf (n + 1) r
def ownsOf : Nat → List SEnt → List Nat
  | _, [] => []
  | n, s :: r => if s.fn.own then n :: ownsOf (n + 1) r else ownsOf (n + 1) r
def Bs (ss : List SEnt) : Nat → Option Fn := fun i => (ss[i]?).map (·.fn)
def Gc (cs : List (Str × Cst)) : Globs := fun x => (cs.lookup x).map Cst.d
def scB (N P : List Str) (sc : Scope) : Bool :=
  (match sc.kind with | .function => true | _ => false) && (!sc.isCoroutine && (!sc.isGenerator && (decide N.Nodup && (decide (N.take P.length = P) && ((P.all fun x => decide (sc.names.lookup x = some .local) || decide (sc.names.lookup x = some .cell)) && sc.names.all fun y => decide (y.2 ≠ .free))))))
theorem scB_ok {N P : List Str} {sc : Scope} (h : scB N P sc = true) : FnScope N P sc := by
  unfold scB at h
  simp only [Bool.and_eq_true, Bool.not_eq_true', decide_eq_true_eq, List.all_eq_true, Bool.or_eq_true] at h
  obtain ⟨h1, h2, h3, h4, h5, h6, h7⟩ := h
  refine ⟨?_, h2, h3, h4, h5, h6, fun y hy => h7 y hy⟩
  split at h1
  · assumption
  · cases h1
def argsB (a : Arguments) (ps : List Str) : Bool := match a with
  | ⟨[], args, none, [], [], none, []⟩ => decide (args.map (·.arg) = ps)
  | _ => false
theorem argsB_ok {K : PySem.W.Frag} {x : Str} {st : Stmt} {f : Addr} {fd : FuncData} {ps : List Str} (F : FunD K x x (defArgs st) (defBody st) (defScope st) [] [] f fd) (nd : ps.Nodup) (h : argsB (defArgs st) ps = true) :
    Binds K fd ps [] ∧ ∀ (s : Shared) (us : List Value), us.length = ps.length → BindsTo s fd ⟨us, []⟩ (ps.zip us) := by
  have key : ∀ (kV doc pm : Value) (an : Option Addr) (cdv ct : Value) (us : List Value), us.length = ps.length → bindArgs (PySem.W.fnOf x x (defArgs st) (defBody st) (defScope st) .none kV doc pm an cdv ct) ⟨us, []⟩ = pure (ps.zip us) := by
    intro kV doc pm an cdv ct us hl
    unfold argsB at h
    split at h
    · rename_i args e
      have := of_decide_eq_true h
      subst this
      rw [e]
      exact binds_gen nd hl
    · cases h
  exact ⟨F.bindsN key, fun s us hl => F.bindsA key s us hl⟩
/-- what is checked of one def -/
def sChk (D : List (Str × Nat)) (O : List Nat) (Gs : List Str) (s : SEnt) : Bool :=
  scB s.N s.ps (defScope s.st) && (argsB (defArgs s.st) s.ps && ((s.ps.length == s.fn.np) && ((s.N.length == s.fn.n) && okSs s.fn.body { N := s.N, sc := defScope s.st, fn := true, fnBlk := [], defs := D, ow := O, globs := Gs } s.fn.own (defBody s.st))))
def fdNone : FuncData := PySem.W.fnOf "" "" ⟨[], [], none, [], [], none, []⟩ [] ⟨.function, [], false, false, []⟩ .none .none .none .none none .none .none
def fdAt (K : PySem.W.Frag) (a : Addr) : FuncData := match K.lookup a with
  | some ⟨_, _, .func fd, _⟩ => fd
  | _ => fdNone
def entOf (K : PySem.W.Frag) (s : SEnt) (i : Nat) : Ent := ⟨s.x, s.x, s.st, He.ga K s.x, fdAt K (He.ga K s.x), i, s.fn, s.N, s.ps⟩
def entsOf (K : PySem.W.Frag) : Nat → List SEnt → List Ent
  | _, [] => []
  | n, s :: r => entOf K s n :: entsOf K (n + 1) r
/-- what is looked at behind the top -/
def faOf (ss : List SEnt) (cs : List (Str × Cst)) : List He.Fa := ss.map (fun s => He.Fa.glo s.x) ++ (bltNames.map He.Fa.free ++ cs.map fun c => match c.2 with
  | .int i => He.Fa.int c.1 i
  | .str s => He.Fa.str c.1 s
  | .tstr _ => He.Fa.glo c.1)
def fnOf (ss : List SEnt) : List He.DefD := ss.map fun s => ⟨(s.x, none), s.x, s.x, defArgs s.st, defBody s.st, defScope s.st, [], []⟩
def isLst (o : Obj) : Bool := match o.cls with
  | .type c => decide (c = "list")
  | _ => false
def exOf (cs : List (Str × Cst)) (K : PySem.W.Frag) : Bool := (K.all fun p => !isLst p.2) && cs.all fun c => match c.2 with
  | .tstr l => He.tupB K c.1 (l.map He.Dv.str)
  | _ => true
theorem ids_look : ∀ {ss : List SEnt} {n f : Nat} {x : Str}, (idsOf n ss).lookup x = some f → ∃ s, ss[f - n]? = some s ∧ s.x = x ∧ n ≤ f
  | [], n, f, x, h => by simp [idsOf] at h
  | s :: r, n, f, x, h => by
    simp only [idsOf, List.lookup] at h
    split at h
    · rename_i e
      cases h
      exact ⟨s, by simp, (by simpa using e : x = s.x).symm, Nat.le_refl _⟩
    · obtain ⟨s', h1, h2, h3⟩ := ids_look h
      refine ⟨s', ?_, h2, by omega⟩
      have : f - n = (f - (n + 1)) + 1 := by omega
      rw [this, List.getElem?_cons_succ]
      exact h1
theorem ents_get {K : PySem.W.Frag} : ∀ {ss : List SEnt} {n i : Nat} {s : SEnt}, ss[i]? = some s → entOf K s (n + i) ∈ entsOf K n ss
  | [], n, i, s, h => by simp at h
  | s0 :: r, n, 0, s, h => by simp at h; subst h; simp [entsOf]
  | s0 :: r, n, i + 1, s, h => by
    have := ents_get (K := K) (n := n + 1) (i := i) (s := s) (ss := r) (by simpa using h)
    have e : n + 1 + i = n + (i + 1) := by omega
    rw [e] at this
    exact List.mem_cons_of_mem _ this
theorem ents_mem {K : PySem.W.Frag} : ∀ {ss : List SEnt} {n : Nat} {e : Ent}, e ∈ entsOf K n ss → ∃ i s, ss[i]? = some s ∧ e = entOf K s (n + i)
  | [], n, e, h => by simp [entsOf] at h
  | s0 :: r, n, e, h => by
    rcases List.mem_cons.mp h with rfl | h
    · exact ⟨0, s0, rfl, rfl⟩
    · obtain ⟨i, s, h1, h2⟩ := ents_mem h
      exact ⟨i + 1, s, by simpa using h1, by rw [h2]; congr 1; omega⟩
theorem owns_has : ∀ {ss : List SEnt} {n i : Nat} {s : SEnt}, ss[i]? = some s → (ownsOf n ss).contains (n + i) = s.fn.own := by
  have low : ∀ {ss : List SEnt} {n k : Nat}, k < n → (ownsOf n ss).contains k = false := by
    intro ss
    induction ss with
    | nil => intro n k _; rfl
    | cons s r ih =>
      intro n k hk
      unfold ownsOf
      split
      · rw [List.contains_cons, ih (by omega)]
        simp; omega
      · exact ih (by omega)
  intro ss
  induction ss with
  | nil => intro n i s h; simp at h
  | cons s0 r ih =>
    intro n i s h
    cases i with
    | zero =>
      simp at h
      subst h
      unfold ownsOf
      cases hs : s0.fn.own with
      | true => simp
      | false => simpa using low (Nat.lt_succ_self n)
    | succ i =>
      have := ih (n := n + 1) (i := i) (s := s) (by simpa using h)
      have e : n + 1 + i = n + (i + 1) := by omega
      rw [e] at this
      unfold ownsOf
      split
      · rw [List.contains_cons, this]
        have : (n + (i + 1) == n) = false := by simp
        rw [this, Bool.false_or]
      · exact this
section
variable {K : PySem.W.Frag} {h : Heap} {mg : Str → Option Value} {ss : List SEnt} {cs : List (Str × Cst)}
theorem tab_of (X : K.In h) (G : h.Ns mainGlobals mg) (c : He.SaysD (faOf ss cs) (fnOf ss) K) (ex : exOf cs K = true) (chk : ∀ s ∈ ss, sChk (idsOf 0 ss) (ownsOf 0 ss) (cs.map (·.1)) s = true) :
    TabOk K mg (Bs ss) (Gc cs) (idsOf 0 ss) (ownsOf 0 ss) (cs.map (·.1)) (entsOf K 0 ss) ∧ ∀ s ∈ ss, FunD K s.x s.x (defArgs s.st) (defBody s.st) (defScope s.st) [] [] (He.ga K s.x) (fdAt K (He.ga K s.x)) ∧ mg s.x = some (.ref (He.ga K s.x)) := by
  have fa : ∀ {f : He.Fa}, f ∈ faOf ss cs → f.ok K = true := fun hf => c.facts hf
  have glo : ∀ s ∈ ss, mg s.x = some (.ref (He.ga K s.x)) := fun s hs => He.glo_ok X G (fa (List.mem_append_left _ (List.mem_map.mpr ⟨s, hs, rfl⟩)))
  have fun_ : ∀ s ∈ ss, FunD K s.x s.x (defArgs s.st) (defBody s.st) (defScope s.st) [] [] (He.ga K s.x) (fdAt K (He.ga K s.x)) := fun s hs => by
    obtain ⟨fd, F⟩ := c.defs (d := ⟨(s.x, none), s.x, s.x, defArgs s.st, defBody s.st, defScope s.st, [], []⟩) (List.mem_map.mpr ⟨s, hs, rfl⟩)
    have F : FunD K s.x s.x (defArgs s.st) (defBody s.st) (defScope s.st) [] [] (He.ga K s.x) fd := F
    have : fdAt K (He.ga K s.x) = fd := by
      obtain ⟨oc, od, dV, kV, doc, pm, an, cdv, ct, osl, e, lk, _⟩ := F.ex
      unfold fdAt
      rw [lk]
    rw [this]
    exact F
  refine ⟨⟨fun e he => ?_, fun x f hx => ?_, fun x d hx => ?_, fun x hx => ?_, fun x hx => ?_⟩, fun s hs => ⟨fun_ s hs, glo s hs⟩⟩
  · obtain ⟨i, s, h1, rfl⟩ := ents_mem he
    rw [Nat.zero_add]
    have hs : s ∈ ss := List.mem_of_getElem? h1
    have ch := chk s hs
    unfold sChk at ch
    simp only [Bool.and_eq_true, beq_iff_eq] at ch
    obtain ⟨c1, c2, c3, c4, c5⟩ := ch
    have S := scB_ok c1
    have nd : s.ps.Nodup := by rw [← S.pre]; exact S.nd.sublist (List.take_sublist _ _)
    exact { fn := He5.fun_of (fun_ s hs), scope := S, mg := glo s hs, binds := (argsB_ok (fun_ s hs) nd c2).1, np := c3, n := c4, b := by show (ss[i]?).map (·.fn) = some s.fn; rw [h1]; rfl, chk := c5 }
  · obtain ⟨s, h1, h2, _⟩ := ids_look hx
    rw [Nat.sub_zero] at h1
    refine ⟨entOf K s f, ?_, h2, rfl, ?_⟩
    · have := ents_get (K := K) (n := 0) h1
      rwa [Nat.zero_add] at this
    · have := owns_has (n := 0) h1
      rwa [Nat.zero_add] at this
  · unfold Gc at hx
    rw [Option.map_eq_some_iff] at hx
    obtain ⟨v, h1, rfl⟩ := hx
    have hm : (x, v) ∈ cs := PySem.mem_of_lookup h1
    have hf : ∀ f, (match v with | .int i => He.Fa.int x i | .str s => He.Fa.str x s | .tstr _ => He.Fa.glo x) = f → f.ok K = true := fun f e => fa (List.mem_append_right _ (List.mem_append_right _ (List.mem_map.mpr ⟨(x, v), hm, e⟩)))
    cases v with
    | int i =>
      obtain ⟨t, e⟩ := He.int_ok X G (hf _ rfl)
      exact ⟨_, .int i, e, ⟨t, rfl⟩, .int i⟩
    | str s =>
      obtain ⟨t, e⟩ := He.str_ok X G (hf _ rfl)
      exact ⟨_, .str s, e, ⟨t, rfl⟩, .str s⟩
    | tstr l =>
      have e := He.glo_ok X G (hf _ rfl)
      unfold exOf at ex
      simp only [Bool.and_eq_true, List.all_eq_true] at ex
      have tb : He.tupB K x (l.map He.Dv.str) = true := ex.2 _ hm
      have q := He.tupB_ok tb (fun _ => none)
      rw [List.map_map] at q
      refine ⟨_, .ref (He.ga K x), e, rfl, .tup q ?_ ?_⟩
      · rcases q with (q | ⟨_, q⟩) | ⟨_, its, _, _, _, _, hz, rv⟩
        · cases q
        · cases q
        · rw [rv.length]; exact hz
      · clear q tb hm h1 hf
        induction l with
        | nil => exact .nil
        | cons a r ih => exact .cons (.str a) ih
  · obtain ⟨p, hp, rfl⟩ := List.mem_map.mp hx
    unfold Gc
    cases e : cs.lookup p.1 with
    | some v => rfl
    | none =>
      exfalso
      have : ∀ (l : List (Str × Cst)), p ∈ l → l.lookup p.1 ≠ none := by
        intro l
        induction l with
        | nil => intro h; simp at h
        | cons a r ih =>
          intro h q
          simp only [List.lookup] at q
          split at q
          · cases q
          · rename_i hne
            rcases List.mem_cons.mp h with rfl | h
            · simp at hne
            · exact ih h q
      exact this cs hp e
  · exact He.free_ok X G (fa (List.mem_append_right _ (List.mem_append_left _ (List.mem_map.mpr ⟨x, hx, rfl⟩))))
end
def Y0 (K : PySem.W.Frag) : Wd := ⟨K, fun _ => True, fun _ _ _ _ _ _ => trivial, fun _ _ _ _ _ _ _ _ => trivial⟩
theorem sq_rd {K : PySem.W.Frag} {H : Hp} {a : Addr} {xs : List V} (hk : (K.all fun p => !isLst p.2) = true) (h : SqL K H a xs) : Rd H a (.lst xs) := by
  rcases h with h | ⟨o, its, n, h1, h2, _⟩
  · exact h
  · exfalso
    have := List.all_eq_true.mp hk (a, o) (He.lookup_mem h1)
    have e : isLst o = true := by unfold isLst; rw [h2]; simp
    rw [show (!isLst (a, o).2) = !isLst o from rfl, e] at this
    cases this
/-- the end: the law's answer, reckoned -/
theorem law_end {l : PySem.W.OpenLaw} {q : Program} {loose : List Str} {XP : (Str → Option Value) → Heap → Prop} {d : DefRec} {ss : List SEnt} {cs : List (Str × Cst)} {n k li : Nat} {s0 : SEnt} {x : Str}
    (hn : l.most = some 63) (hdf : d.params.defaults = []) (hr : Room k callerA) (chk : ∀ s ∈ ss, sChk (idsOf 0 ss) (ownsOf 0 ss) (cs.map (·.1)) s = true)
    (hs0 : ss[li]? = some s0) (hd0 : d.name = s0.x) (hp0 : s0.ps = [x]) (hw0 : s0.fn.own = false)
    (pure : ∀ ns : List Int, ns.length ≤ 63 → callN (Bs ss) (Gc cs) k li [.d (.list (ns.map .int))] [] = .ok (.d (.bool true)) []) :
    PySem.W.WalkO q loose XP (He.hookX n (faOf ss cs) (fnOf ss) [] [] (exOf cs)).says l.row.toRowW d [] (fun f vs => PySem.call f vs) := by
  refine Att.attach_call hn hdf fun w s₀ s₁ mg mb fa o pm cd doc a vs ns GG YY ho hd hcd hmg hobj hints hlen hg => ?_
  obtain ⟨K, KX, c⟩ := YY
  have hm0 : s0 ∈ ss := List.mem_of_getElem? hs0
  obtain ⟨T, F⟩ := tab_of KX GG.T.g c.t.d c.more chk
  obtain ⟨F1, F2⟩ := F s0 hm0
  have hfa : fa = He.ga K s0.x := by
    rw [hd0, F2] at hmg
    cases hmg; rfl
  subst hfa
  have ch := chk s0 hm0
  unfold sChk at ch
  simp only [Bool.and_eq_true, beq_iff_eq] at ch
  obtain ⟨c1, c2, c3, c4, c5⟩ := ch
  have S := scB_ok c1
  have nd : s0.ps.Nodup := by rw [← S.pre]; exact S.nd.sublist (List.take_sublist _ _)
  have B2 := (argsB_ok F1 nd c2).2
  have nol : (K.all fun p => !isLst p.2) = true := by
    have := c.more
    unfold exOf at this
    exact (Bool.and_eq_true _ _ ▸ this).1
  have hin : entOf K s0 li ∈ entsOf K 0 ss := by
    have := ents_get (K := K) (n := 0) hs0
    rwa [Nat.zero_add] at this
  refine law_call (CX := L2.CX l.prog w) (fd := fdAt K (He.ga K s0.x)) (k := k) (x := x) (sp := spOf (Y0 K) mg (callN (Bs ss) (Gc cs) k) li false) KX GG.T.g GG.T.b GG.T.builtins GG.T.nolimit hg hobj hints (Nat.le_trans hlen (by decide)) hr (fun base hb hnsb => ?_) (fun s u => ?_) (fun H hO hS => ?_) fun H e s' z => ?_
  · have := tab_fn (P := l.prog) (w := w) (base := base) (Y := Y0 K) rfl T k _ hin
    have e : (entOf K s0 li).fn.own = false := hw0
    rw [e] at this
    have e2 : (entOf K s0 li).ps = [x] := hp0
    rw [e2] at this
    exact this
  · have := B2 s [u] (by rw [hp0]; rfl)
    rw [hp0] at this
    exact this
  · have rd := sq_rd nol hS
    refine ⟨⟨H, []⟩, [], [.d (.list (ns.map .int))], ⟨Same.refl _, rfl, by simp, fun l a o e => by simp at e, trivial⟩, .cons (.lst rd (by rw [List.length_map]; exact Nat.le_trans hlen (by decide)) ?_) .nil, ?_⟩
    · clear rd hS hobj hints hlen
      induction ns with
      | nil => exact .nil
      | cons i r ih => exact .cons (.int i) ih
    · rw [pure ns hlen]
      intro I' H' x s r o
      exact RV.bool (w := ⟨I', []⟩) (K := (Y0 K).K) (by simpa using o)
  · obtain ⟨_, _, _, _, _, _, _, _, _, _, _, _, z⟩ := z
    exact z
end Kp
end

section
set_option Elab.async false
set_option linter.all false
set_option maxRecDepth 100000
set_option maxHeartbeats 0
namespace Kp
open PySem
open PySem.Spec
open PyProof.Rows
open L2
namespace k19
def top (i : Nat) : Stmt := PySem.Challenge.pw_keypanes_k19_arrows_among_many.main.body.getD i (.Pass ⟨0, 0, 0, 0⟩)
def b_is_number : List S := [.ret (.land (.isi (.var 0) [.int]) (.land (.lnot (.isi (.var 0) [.bool])) (.chn .le .le (.var 1) (.var 0) (.var 2))))]
def f_is_number : Fn := { n := 3, np := 3, body := b_is_number }
def s_is_number : SEnt := ⟨"is_number", top 13, f_is_number, ["thing", "least", "greatest"], ["thing", "least", "greatest"]⟩
def b_is_name : List S := [.ret (.call 0 [.var 0, .int 0, .glb "FAR"])]
def f_is_name : Fn := { n := 1, np := 1, body := b_is_name }
def s_is_name : SEnt := ⟨"is_name", top 14, f_is_name, ["thing"], ["thing"]⟩
def q_is_box_0 : E := .comp (.call 0 [.var 1, .neg (.glb "FAR"), .glb "FAR"]) (.one 1) (.seq (.slc (.var 0) false true .non (.int 2))) []
def q_is_box_1 : E := .comp (.call 0 [.var 1, .int 1, .glb "FAR"]) (.one 1) (.seq (.slc (.var 0) true false (.int 2) .non)) []
def b_is_box : List S := [.ife (.lor (.lnot (.isi (.var 0) [.tuple])) (.cmp .ne (.bi .len [.var 0]) (.int 4))) [.ret (.bl false)] [], .ife (.lnot (.bi .all [q_is_box_0])) [.ret (.bl false)] [], .ret (.bi .all [q_is_box_1])]
def f_is_box : Fn := { n := 2, np := 1, body := b_is_box }
def s_is_box : SEnt := ⟨"is_box", top 15, f_is_box, ["thing", "side"], ["thing"]⟩
def q_is_key_0 : E := .comp (.cmp .inn (.var 1) (.glb "KEY_SIGNS")) (.one 1) (.seq (.var 0)) []
def b_is_key : List S := [.ife (.lor (.lnot (.isi (.var 0) [.str])) (.lor (.cmp .lt (.bi .len [.var 0]) (.int 1)) (.cmp .gt (.bi .len [.var 0]) (.int 8)))) [.ret (.bl false)] [], .ret (.bi .all [q_is_key_0])]
def f_is_key : Fn := { n := 2, np := 1, body := b_is_key }
def s_is_key : SEnt := ⟨"is_key", top 16, f_is_key, ["thing", "sign"], ["thing"]⟩
def b_is_way : List S := [.ret (.land (.isi (.var 0) [.str]) (.cmp .inn (.var 0) (.glb "WAYS")))]
def f_is_way : Fn := { n := 1, np := 1, body := b_is_way }
def s_is_way : SEnt := ⟨"is_way", top 17, f_is_way, ["thing"], ["thing"]⟩
def b_is_mark : List S := [.ret (.land (.isi (.var 0) [.str]) (.cmp .inn (.var 0) (.glb "MARKS")))]
def f_is_mark : Fn := { n := 1, np := 1, body := b_is_mark }
def s_is_mark : SEnt := ⟨"is_mark", top 18, f_is_mark, ["thing"], ["thing"]⟩
def b_is_deed : List S := [.ife (.lor (.lnot (.isi (.var 0) [.tuple])) (.lor (.cmp .lt (.bi .len [.var 0]) (.int 1)) (.lnot (.isi (.idx (.var 0) (.int 0)) [.str])))) [.ret (.bl false)] [], .ife (.lor (.cmp .eq (.var 0) (.tup [.str "shut"])) (.cmp .eq (.var 0) (.tup [.str "still"]))) [.ret (.bl true)] [], .ife (.cmp .ne (.bi .len [.var 0]) (.int 2)) [.ret (.bl false)] [], .ife (.cmp .eq (.idx (.var 0) (.int 0)) (.str "say")) [.ret (.call 0 [.idx (.var 0) (.int 1), .neg (.glb "FAR"), .glb "FAR"])] [], .ret (.land (.cmp .eq (.idx (.var 0) (.int 0)) (.str "go")) (.call 4 [.idx (.var 0) (.int 1)]))]
def f_is_deed : Fn := { n := 1, np := 1, body := b_is_deed }
def s_is_deed : SEnt := ⟨"is_deed", top 19, f_is_deed, ["thing"], ["thing"]⟩
def q_rises_0 : E := .comp (.cmp .lt (.idx (.var 0) (.var 1)) (.idx (.var 0) (.bop .add (.var 1) (.int 1)))) (.one 1) (.rng (.bop .sub (.bi .len [.var 0]) (.int 1))) []
def b_rises : List S := [.ret (.bi .all [q_rises_0])]
def f_rises : Fn := { n := 2, np := 1, body := b_rises }
def s_rises : SEnt := ⟨"rises", top 20, f_rises, ["thing", "at"], ["thing"]⟩
def q_are_marks_0 : E := .comp (.call 5 [.var 1]) (.one 1) (.seq (.var 0)) []
def b_are_marks : List S := [.ret (.land (.isi (.var 0) [.tuple]) (.land (.bi .all [q_are_marks_0]) (.call 7 [.var 0])))]
def f_are_marks : Fn := { n := 2, np := 1, body := b_are_marks }
def s_are_marks : SEnt := ⟨"are_marks", top 21, f_are_marks, ["thing", "one"], ["thing"]⟩
def b_is_known : List S := [.ret (.land (.isi (.var 0) [.tuple]) (.land (.cmp .eq (.bi .len [.var 0]) (.int 2)) (.land (.call 3 [.idx (.var 0) (.int 0)]) (.call 6 [.idx (.var 0) (.int 1)]))))]
def f_is_known : Fn := { n := 1, np := 1, body := b_is_known }
def s_is_known : SEnt := ⟨"is_known", top 22, f_is_known, ["thing"], ["thing"]⟩
def q_are_keys_0 : E := .comp (.call 9 [.var 1]) (.one 1) (.seq (.var 0)) []
def q_are_keys_1 : E := .comp (.idx (.var 1) (.int 0)) (.one 1) (.seq (.var 0)) []
def b_are_keys : List S := [.ife (.lor (.lnot (.isi (.var 0) [.tuple])) (.lor (.cmp .gt (.bi .len [.var 0]) (.glb "MOST_KEYS")) (.lnot (.bi .all [q_are_keys_0])))) [.ret (.bl false)] [], .ret (.call 7 [q_are_keys_1])]
def f_are_keys : Fn := { n := 2, np := 1, body := b_are_keys }
def s_are_keys : SEnt := ⟨"are_keys", top 23, f_are_keys, ["thing", "one"], ["thing"]⟩
def b_is_pane : List S := [.ife (.lor (.lnot (.isi (.var 0) [.tuple])) (.cmp .ne (.bi .len [.var 0]) (.int 6))) [.ret (.bl false)] [], .unp [1, 2, 3, 4, 5, 6] (.var 0), .ife (.lor (.lnot (.call 1 [.var 1])) (.lnot (.lor (.isN (.var 2)) (.call 1 [.var 2])))) [.ret (.bl false)] [], .ret (.land (.call 2 [.var 3]) (.land (.call 0 [.var 4, .neg (.glb "FAR"), .glb "FAR"]) (.land (.call 8 [.var 5]) (.call 10 [.var 6]))))]
def f_is_pane : Fn := { n := 7, np := 1, body := b_is_pane }
def s_is_pane : SEnt := ⟨"is_pane", top 24, f_is_pane, ["thing", "name", "up", "box", "turn", "marks", "keys"], ["thing"]⟩
def q_is_ground_0 : E := .comp (.var 8) (.many [7, 8]) (.seq (.var 6)) []
def b_is_ground : List S := [.unp [1, 2, 3, 4, 5, 6] (.var 0), .ife (.lor (.cmp .ne (.var 1) (.int 0)) (.lor (.notN (.var 2)) (.lor (.cmp .ne (.slc (.var 3) false true .non (.int 2)) (.tup [.int 0, .int 0])) (.lor (.cmp .ne (.var 4) (.int 0)) (.cmp .ne (.var 5) (.tup [])))))) [.ret (.bl false)] [], .ret (.cmp .nin (.tup [.str "shut"]) (q_is_ground_0))]
def f_is_ground : Fn := { n := 9, np := 1, body := b_is_ground }
def s_is_ground : SEnt := ⟨"is_ground", top 25, f_is_ground, ["pane", "name", "up", "box", "turn", "marks", "keys", "key", "deed"], ["pane"]⟩
def q_is_rooted_0 : E := .comp (.var 4) (.one 4) (.seq (.var 2)) [.cmp .nin (.idx (.var 4) (.int 1)) (.var 1)]
def l_is_rooted_0 : S := .forr (.one 4) (.seq (.var 2)) [.ife (.cmp .inn (.idx (.var 4) (.int 1)) (.var 1)) [.sidx (.var 1) (.idx (.var 4) (.int 0)) (.bl true)] []]
def q_is_rooted_1 : E := .comp (.var 4) (.one 4) (.seq (.var 2)) [.cmp .nin (.idx (.var 4) (.int 0)) (.var 1)]
def w_is_rooted_0 : S := .whl (.cmp .ne (.var 2) (.lst [])) [.set 3 (q_is_rooted_0), .ife (.cmp .eq (.bi .len [.var 3]) (.bi .len [.var 2])) [.ret (.bl false)] [], l_is_rooted_0, .set 2 (q_is_rooted_1)]
def b_is_rooted : List S := [.setM 1 (.dic [.int 0, .bl true]), .set 2 (.bi .list [.slc (.var 0) true false (.int 1) .non]), w_is_rooted_0, .ret (.bl true)]
def f_is_rooted : Fn := { n := 5, np := 1, body := b_is_rooted }
def s_is_rooted : SEnt := ⟨"is_rooted", top 26, f_is_rooted, ["panes", "known", "left", "later", "pane"], ["panes"]⟩
def q_fits_in_0 : E := .comp (.call 11 [.var 1]) (.one 1) (.seq (.var 0)) []
def q_fits_in_1 : E := .comp (.idx (.var 1) (.int 0)) (.one 1) (.seq (.var 0)) []
def l_fits_in_0 : S := .forr (.one 1) (.seq (.slc (.var 0) true false (.int 1) .non)) [.ife (.lor (.isN (.idx (.var 1) (.int 1))) (.land (.cmp .inn (.str "sheet") (.idx (.var 1) (.int 4))) (.cmp .ne (.idx (.var 1) (.int 1)) (.int 0)))) [.ret (.bl false)] []]
def b_fits_in : List S := [.ife (.lor (.cmp .lt (.bi .len [.var 0]) (.int 1)) (.lnot (.bi .all [q_fits_in_0]))) [.ret (.bl false)] [], .ife (.lor (.lnot (.call 7 [q_fits_in_1])) (.lnot (.call 12 [.idx (.var 0) (.int 0)]))) [.ret (.bl false)] [], l_fits_in_0, .ret (.call 13 [.var 0])]
def f_fits_in : Fn := { n := 2, np := 1, body := b_fits_in }
def s_fits_in : SEnt := ⟨"fits_in", top 27, f_fits_in, ["panes", "pane"], ["panes"]⟩
def b_is_plan : List S := [.ret (.land (.isi (.var 0) [.tuple]) (.land (.cmp .le (.bi .len [.var 0]) (.glb "MOST_PANES")) (.call 14 [.var 0])))]
def f_is_plan : Fn := { n := 1, np := 1, body := b_is_plan }
def s_is_plan : SEnt := ⟨"is_plan", top 28, f_is_plan, ["thing"], ["thing"]⟩
def b_see_plan : List S := [.ife (.lnot (.call 15 [.var 0])) [.bad] []]
def f_see_plan : Fn := { n := 1, np := 1, body := b_see_plan }
def s_see_plan : SEnt := ⟨"see_plan", top 29, f_see_plan, ["plan"], ["plan"]⟩
-- see_plan: ['Raise']
def q_has_name_0 : E := .comp (.idx (.var 2) (.int 0)) (.one 2) (.seq (.var 0)) []
def b_has_name : List S := [.ret (.land (.call 1 [.var 1]) (.cmp .inn (.var 1) (q_has_name_0)))]
def f_has_name : Fn := { n := 3, np := 2, body := b_has_name }
def s_has_name : SEnt := ⟨"has_name", top 30, f_has_name, ["plan", "thing", "pane"], ["plan", "thing"]⟩
def b_see_name : List S := [.ife (.lnot (.call 17 [.var 0, .var 1])) [.bad] []]
def f_see_name : Fn := { n := 2, np := 2, body := b_see_name }
def s_see_name : SEnt := ⟨"see_name", top 31, f_see_name, ["plan", "name"], ["plan", "name"]⟩
-- see_name: ['Raise']
def q_the_pane_0 : E := .comp (.var 2) (.one 2) (.seq (.var 0)) [.cmp .eq (.idx (.var 2) (.int 0)) (.var 1)]
def b_the_pane : List S := [.ret (.idx (q_the_pane_0) (.int 0))]
def f_the_pane : Fn := { n := 3, np := 2, body := b_the_pane }
def s_the_pane : SEnt := ⟨"the_pane", top 32, f_the_pane, ["plan", "name", "pane"], ["plan", "name"]⟩
def q_going_up_0 : E := .comp (.tup [.idx (.var 4) (.int 0), .idx (.var 4) (.int 1)]) (.one 4) (.seq (.var 0)) []
def w_going_up_0 : S := .whl (.notN (.var 1)) [.exp (.mth .append (.var 3) [.var 1]), .set 1 (.idx (.var 2) (.var 1))]
def b_going_up : List S := [.set 2 (.bi .dict [q_going_up_0]), .setM 3 (.lst []), w_going_up_0, .ret (.var 3)]
def f_going_up : Fn := { n := 5, np := 2, body := b_going_up }
def s_going_up : SEnt := ⟨"going_up", top 33, f_going_up, ["plan", "name", "above", "line", "pane"], ["plan", "name"]⟩
def q_in_order_0 : E := .comp (.tup [.idx (.var 2) (.int 3), .idx (.var 2) (.int 0)]) (.one 2) (.seq (.var 0)) [.cmp .eq (.idx (.var 2) (.int 1)) (.var 1)]
def q_in_order_1 : E := .comp (.idx (.var 2) (.int 1)) (.one 2) (.seq (.bi .sorted [q_in_order_0])) []
def b_in_order : List S := [.ret (q_in_order_1)]
def f_in_order : Fn := { n := 3, np := 2, body := b_in_order }
def s_in_order : SEnt := ⟨"in_order", top 34, f_in_order, ["plan", "name", "pane"], ["plan", "name"]⟩
def w_walked_0 : S := .whl (.cmp .ne (.var 3) (.lst [])) [.set 4 (.mth .pop (.var 3) []), .exp (.mth .append (.var 2) [.var 4]), .exp (.mth .extend (.var 3) [.rev (.call 21 [.var 0, .var 4])])]
def b_walked : List S := [.setM 2 (.lst []), .setM 3 (.lst [.var 1]), w_walked_0, .ret (.var 2)]
def f_walked : Fn := { n := 5, np := 2, body := b_walked }
def s_walked : SEnt := ⟨"walked", top 35, f_walked, ["plan", "name", "line", "left", "here"], ["plan", "name"]⟩
def b_is_dead : List S := [.set 2 (.idx (.call 19 [.var 0, .var 1]) (.int 4)), .ret (.lor (.cmp .inn (.str "asleep") (.var 2)) (.cmp .inn (.str "hidden") (.var 2)))]
def f_is_dead : Fn := { n := 3, np := 2, body := b_is_dead }
def s_is_dead : SEnt := ⟨"is_dead", top 37, f_is_dead, ["plan", "name", "marks"], ["plan", "name"]⟩
def q_alive_0 : E := .comp (.var 2) (.one 2) (.seq (.call 20 [.var 0, .var 1])) [.call 23 [.var 0, .var 2]]
def b_alive : List S := [.ret (.cmp .eq (q_alive_0) (.lst []))]
def f_alive : Fn := { n := 3, np := 2, body := b_alive }
def s_alive : SEnt := ⟨"alive", top 38, f_alive, ["plan", "name", "up"], ["plan", "name"]⟩
def q_top_sheet_0 : E := .comp (.idx (.var 1) (.int 0)) (.one 1) (.seq (.var 0)) [.land (.cmp .inn (.str "sheet") (.idx (.var 1) (.int 4))) (.call 24 [.var 0, .idx (.var 1) (.int 0)])]
def b_top_sheet : List S := [.ret (.bi .max [.bop .add (.lst [.int 0]) (q_top_sheet_0)])]
def f_top_sheet : Fn := { n := 2, np := 1, body := b_top_sheet }
def s_top_sheet : SEnt := ⟨"top_sheet", top 39, f_top_sheet, ["plan", "pane"], ["plan"]⟩
def b_opens : List S := [.ret (.land (.call 24 [.var 0, .var 1]) (.cmp .inn (.call 25 [.var 0]) (.call 20 [.var 0, .var 1])))]
def f_opens : Fn := { n := 2, np := 2, body := b_opens }
def s_opens : SEnt := ⟨"opens", top 40, f_opens, ["plan", "name"], ["plan", "name"]⟩
def b_takes_keys : List S := [.ret (.land (.call 26 [.var 0, .var 1]) (.lor (.cmp .inn (.str "stop") (.idx (.call 19 [.var 0, .var 1]) (.int 4))) (.cmp .eq (.var 1) (.call 25 [.var 0]))))]
def f_takes_keys : Fn := { n := 2, np := 2, body := b_takes_keys }
def s_takes_keys : SEnt := ⟨"takes_keys", top 41, f_takes_keys, ["plan", "name"], ["plan", "name"]⟩
def l_placed_0 : S := .forr (.one 4) (.seq (.call 20 [.var 0, .var 1])) [.set 6 (.idx (.call 19 [.var 0, .var 4]) (.int 2)), .set 2 (.bop .add (.var 2) (.idx (.var 6) (.int 0))), .set 3 (.bop .add (.var 3) (.idx (.var 6) (.int 1)))]
def b_placed : List S := [.set 2 (.int 0), .set 3 (.int 0), l_placed_0, .set 5 (.idx (.call 19 [.var 0, .var 1]) (.int 2)), .ret (.tup [.var 2, .var 3, .idx (.var 5) (.int 2), .idx (.var 5) (.int 3)])]
def f_placed : Fn := { n := 7, np := 2, body := b_placed }
def s_placed : SEnt := ⟨"placed", top 43, f_placed, ["plan", "name", "left", "top", "up", "own", "box"], ["plan", "name"]⟩
def q_seen_in_0 : E := .comp (.call 28 [.var 0, .var 7]) (.one 7) (.seq (.call 20 [.var 0, .var 1])) []
def q_seen_in_1 : E := .comp (.idx (.var 8) (.int 0)) (.one 8) (.seq (.var 2)) []
def q_seen_in_2 : E := .comp (.idx (.var 8) (.int 1)) (.one 8) (.seq (.var 2)) []
def q_seen_in_3 : E := .comp (.bop .add (.idx (.var 8) (.int 0)) (.idx (.var 8) (.int 2))) (.one 8) (.seq (.var 2)) []
def q_seen_in_4 : E := .comp (.bop .add (.idx (.var 8) (.int 1)) (.idx (.var 8) (.int 3))) (.one 8) (.seq (.var 2)) []
def b_seen_in : List S := [.set 2 (q_seen_in_0), .set 3 (.bi .max [q_seen_in_1]), .set 4 (.bi .max [q_seen_in_2]), .set 5 (.bi .min [q_seen_in_3]), .set 6 (.bi .min [q_seen_in_4]), .ife (.lor (.cmp .ge (.var 3) (.var 5)) (.cmp .ge (.var 4) (.var 6))) [.ret (.non)] [], .ret (.tup [.var 3, .var 4, .bop .sub (.var 5) (.var 3), .bop .sub (.var 6) (.var 4)])]
def f_seen_in : Fn := { n := 9, np := 2, body := b_seen_in }
def s_seen_in : SEnt := ⟨"seen_in", top 44, f_seen_in, ["plan", "name", "line", "left", "top", "right", "bottom", "up", "box"], ["plan", "name"]⟩
def q_stops_in_0 : E := .comp (.var 2) (.one 2) (.seq (.call 22 [.var 0, .var 1])) [.land (.cmp .inn (.str "stop") (.idx (.call 19 [.var 0, .var 2]) (.int 4))) (.call 26 [.var 0, .var 2])]
def b_stops_in : List S := [.ret (q_stops_in_0)]
def f_stops_in : Fn := { n := 3, np := 2, body := b_stops_in }
def s_stops_in : SEnt := ⟨"stops_in", top 46, f_stops_in, ["plan", "name", "one"], ["plan", "name"]⟩
def l_field_in_0 : S := .forr (.one 2) (.seq (.call 20 [.var 0, .var 1])) [.ife (.cmp .inn (.str "hold") (.idx (.call 19 [.var 0, .var 2]) (.int 4))) [.ret (.var 2)] []]
def b_field_in : List S := [l_field_in_0, .ret (.call 25 [.var 0])]
def f_field_in : Fn := { n := 3, np := 2, body := b_field_in }
def s_field_in : SEnt := ⟨"field_in", top 47, f_field_in, ["plan", "name", "up"], ["plan", "name"]⟩
def b_see_hold : List S := [.ife (.lnot (.call 27 [.var 0, .var 1])) [.bad] []]
def f_see_hold : Fn := { n := 2, np := 2, body := b_see_hold }
def s_see_hold : SEnt := ⟨"see_hold", top 50, f_see_hold, ["plan", "name"], ["plan", "name"]⟩
-- see_hold: ['Raise']
def b_spans_of : List S := [.set 2 (.call 29 [.var 0, .var 1]), .ife (.isN (.var 2)) [.ret (.non)] [], .ret (.tup [.tup [.idx (.var 2) (.int 0), .bop .add (.idx (.var 2) (.int 0)) (.idx (.var 2) (.int 2))], .tup [.idx (.var 2) (.int 1), .bop .add (.idx (.var 2) (.int 1)) (.idx (.var 2) (.int 3))]])]
def f_spans_of : Fn := { n := 3, np := 2, body := b_spans_of }
def s_spans_of : SEnt := ⟨"spans_of", top 51, f_spans_of, ["plan", "name", "box"], ["plan", "name"]⟩
def b_gap_of : List S := [.ret (.bi .max [.bop .sub (.idx (.var 1) (.int 0)) (.idx (.var 0) (.int 1)), .bop .sub (.idx (.var 0) (.int 0)) (.idx (.var 1) (.int 1))])]
def f_gap_of : Fn := { n := 2, np := 2, body := b_gap_of }
def s_gap_of : SEnt := ⟨"gap_of", top 52, f_gap_of, ["one", "other"], ["one", "other"]⟩
def b_rank_of : List S := [.set 3 (.ite (.cmp .inn (.var 2) (.tup [.str "left", .str "right"])) (.int 0) (.int 1)), .set 4 (.bop .sub (.idx (.idx (.var 1) (.var 3)) (.int 0)) (.idx (.idx (.var 0) (.var 3)) (.int 1))), .ife (.cmp .inn (.var 2) (.tup [.str "left", .str "above"])) [.set 4 (.bop .sub (.idx (.idx (.var 0) (.var 3)) (.int 0)) (.idx (.idx (.var 1) (.var 3)) (.int 1)))] [], .ife (.cmp .lt (.var 4) (.int 0)) [.ret (.non)] [], .set 5 (.bi .max [.int 0, .bop .add (.call 34 [.idx (.var 0) (.bop .sub (.int 1) (.var 3)), .idx (.var 1) (.bop .sub (.int 1) (.var 3))]) (.int 1)]), .ret (.tup [.var 5, .var 4, .idx (.idx (.var 1) (.bop .sub (.int 1) (.var 3))) (.int 0)])]
def f_rank_of : Fn := { n := 6, np := 3, body := b_rank_of }
def s_rank_of : SEnt := ⟨"rank_of", top 53, f_rank_of, ["own", "other", "way", "along", "far", "aside"], ["own", "other", "way"]⟩
def l_aimed_0 : S := .forr (.one 5) (.seq (.call 30 [.var 0, .call 31 [.var 0, .var 1]])) [.set 6 (.call 33 [.var 0, .var 5]), .ife (.land (.notN (.var 3)) (.land (.notN (.var 6)) (.cmp .ne (.var 5) (.var 1)))) [.set 7 (.call 35 [.var 3, .var 6, .var 2]), .ife (.land (.notN (.var 7)) (.lor (.isN (.var 4)) (.cmp .lt (.bop .add (.var 7) (.tup [.var 5])) (.var 4)))) [.set 4 (.bop .add (.var 7) (.tup [.var 5]))] []] []]
def b_aimed : List S := [.set 3 (.call 33 [.var 0, .var 1]), .set 4 (.non), l_aimed_0, .ife (.isN (.var 4)) [.ret (.non)] [], .ret (.idx (.var 4) (.neg (.int 1)))]
def f_aimed : Fn := { n := 8, np := 3, body := b_aimed }
def s_aimed : SEnt := ⟨"aimed", top 54, f_aimed, ["plan", "name", "way", "own", "best", "other", "reach", "here"], ["plan", "name", "way"]⟩
def b_aim : List S := [.exp (.call 16 [.var 0]), .exp (.call 18 [.var 0, .var 1]), .exp (.call 32 [.var 0, .var 1]), .ife (.lor (.lnot (.call 4 [.var 2])) (.cmp .nin (.var 2) (.glb "ARROWS"))) [.bad] [], .ret (.call 36 [.var 0, .var 1, .var 2])]
def f_aim : Fn := { n := 3, np := 3, body := b_aim }
def s_aim : SEnt := ⟨"aim", top 55, f_aim, ["plan", "name", "way"], ["plan", "name", "way"]⟩
-- aim: ['Raise']
def b__law_cell : List S := [.ife (.cmp .lt (.var 1) (.bi .len [.var 0])) [.ret (.idx (.var 0) (.var 1))] [], .ret (.int 0)]
def f__law_cell : Fn := { n := 2, np := 2, body := b__law_cell }
def s__law_cell : SEnt := ⟨"_law_cell", top 57, f__law_cell, ["_law_script", "_law_k"], ["_law_script", "_law_k"]⟩
def b__law_pen : List S := [.ret (.lst [.var 0, .bi .int [.cmp .ge (.var 0) (.bop .pow (.int 10) (.int 18))]])]
def f__law_pen : Fn := { n := 1, np := 1, own := true, body := b__law_pen }
def s__law_pen : SEnt := ⟨"_law_pen", top 58, f__law_pen, ["_law_cell_here"], ["_law_cell_here"]⟩
def b__law_draw : List S := [.ife (.cmp .eq (.idx (.var 0) (.int 1)) (.int 1)) [.set 2 (.bop .mod (.idx (.var 0) (.int 0)) (.var 1)), .sidx (.var 0) (.int 0) (.bop .fdiv (.idx (.var 0) (.int 0)) (.var 1)), .ret (.var 2)] [], .sidx (.var 0) (.int 0) (.bop .mod (.bop .add (.bop .mul (.bop .mod (.idx (.var 0) (.int 0)) (.int 2147483629)) (.int 48271)) (.int 11)) (.int 2147483629)), .ret (.bop .mod (.bop .fdiv (.bop .mod (.bop .add (.bop .mul (.idx (.var 0) (.int 0)) (.idx (.var 0) (.int 0))) (.bop .mul (.int 40692) (.idx (.var 0) (.int 0)))) (.int 2147483647)) (.int 8)) (.var 1))]
def f__law_draw : Fn := { n := 3, np := 2, body := b__law_draw }
def s__law_draw : SEnt := ⟨"_law_draw", top 59, f__law_draw, ["_law_pen_here", "_law_bound", "_law_drawn"], ["_law_pen_here", "_law_bound"]⟩
def b__law_pick : List S := [.ret (.idx (.var 1) (.call 40 [.var 0, .bi .len [.var 1]]))]
def f__law_pick : Fn := { n := 2, np := 2, body := b__law_pick }
def s__law_pick : SEnt := ⟨"_law_pick", top 60, f__law_pick, ["_law_pen_here", "_law_things"], ["_law_pen_here", "_law_things"]⟩
def w__law_mixed_0 : S := .whl (.cmp .ne (.var 2) (.lst [])) [.exp (.mth .append (.var 3) [.mth .pop (.var 2) [.call 40 [.var 0, .bi .len [.var 2]]]])]
def b__law_mixed : List S := [.par [(2, true), (3, true)] [.bi .list [.var 1], .lst []], w__law_mixed_0, .ret (.var 3)]
def f__law_mixed : Fn := { n := 4, np := 2, body := b__law_mixed }
def s__law_mixed : SEnt := ⟨"_law_mixed", top 61, f__law_mixed, ["_law_pen_here", "_law_things", "_law_left", "_law_drawn"], ["_law_pen_here", "_law_things"]⟩
def q__law_same_0 : E := .comp (.call 43 [.var 2, .var 3]) (.many [2, 3]) (.zip (.var 0) (.var 1)) []
def b__law_same : List S := [.ife (.isi (.var 1) [.list, .tuple]) [.ife (.lor (.lnot (.isi (.var 0) [.list, .tuple])) (.cmp .ne (.isi (.var 0) [.list]) (.isi (.var 1) [.list]))) [.ret (.bl false)] [], .ife (.cmp .ne (.bi .len [.var 0]) (.bi .len [.var 1])) [.ret (.bl false)] [], .ret (.bi .all [q__law_same_0])] [], .ret (.land (.cmp .eq (.isi (.var 0) [.bool]) (.isi (.var 1) [.bool])) (.cmp .eq (.var 0) (.var 1)))]
def f__law_same : Fn := { n := 4, np := 2, body := b__law_same }
def s__law_same : SEnt := ⟨"_law_same", top 62, f__law_same, ["_law_told", "_law_due", "_law_one", "_law_other"], ["_law_told", "_law_due"]⟩
def q__law_by_0 : E := .comp (.var 2) (.one 2) (.seq (.var 0)) [.cmp .eq (.idx (.var 2) (.int 0)) (.var 1)]
def b__law_by : List S := [.ret (.idx (q__law_by_0) (.int 0))]
def f__law_by : Fn := { n := 3, np := 2, body := b__law_by }
def s__law_by : SEnt := ⟨"_law_by", top 63, f__law_by, ["_law_plan", "_law_name", "_law_pane"], ["_law_plan", "_law_name"]⟩
def w__law_ups_0 : S := .whl (.cmp .ne (.idx (.var 2) (.neg (.int 1))) (.int 0)) [.exp (.mth .append (.var 2) [.idx (.call 44 [.var 0, .idx (.var 2) (.neg (.int 1))]) (.int 1)])]
def b__law_ups : List S := [.setM 2 (.lst [.var 1]), w__law_ups_0, .ret (.var 2)]
def f__law_ups : Fn := { n := 3, np := 2, body := b__law_ups }
def s__law_ups : SEnt := ⟨"_law_ups", top 64, f__law_ups, ["_law_plan", "_law_name", "_law_chain"], ["_law_plan", "_law_name"]⟩
def q__law_parts_0 : E := .comp (.tup [.idx (.var 3) (.int 3), .idx (.var 3) (.int 0)]) (.one 3) (.seq (.var 0)) [.cmp .eq (.idx (.var 3) (.int 1)) (.var 1)]
def q__law_parts_1 : E := .comp (.var 5) (.many [4, 5]) (.seq (.bi .sorted [.var 2])) []
def b__law_parts : List S := [.set 2 (q__law_parts_0), .ret (q__law_parts_1)]
def f__law_parts : Fn := { n := 6, np := 2, body := b__law_parts }
def s__law_parts : SEnt := ⟨"_law_parts", top 65, f__law_parts, ["_law_plan", "_law_name", "_law_some", "_law_pane", "_law_turn", "_law_one"], ["_law_plan", "_law_name"]⟩
def l__law_walk_0 : S := .forr (.one 3) (.seq (.call 46 [.var 0, .var 1])) [.set 2 (.bop .add (.var 2) (.call 47 [.var 0, .var 3]))]
def b__law_walk : List S := [.set 2 (.lst [.var 1]), l__law_walk_0, .ret (.var 2)]
def f__law_walk : Fn := { n := 4, np := 2, body := b__law_walk }
def s__law_walk : SEnt := ⟨"_law_walk", top 66, f__law_walk, ["_law_plan", "_law_name", "_law_chain", "_law_one"], ["_law_plan", "_law_name"]⟩
def q__law_place_0 : E := .comp (.idx (.call 44 [.var 0, .var 4]) (.int 2)) (.one 4) (.seq (.call 45 [.var 0, .var 1])) []
def q__law_place_1 : E := .comp (.idx (.var 5) (.int 0)) (.one 5) (.seq (.var 3)) []
def q__law_place_2 : E := .comp (.idx (.var 5) (.int 1)) (.one 5) (.seq (.var 3)) []
def b__law_place : List S := [.set 2 (.idx (.call 44 [.var 0, .var 1]) (.int 2)), .set 3 (q__law_place_0), .ret (.tup [.bi .sum [q__law_place_1], .bi .sum [q__law_place_2], .idx (.var 2) (.int 2), .idx (.var 2) (.int 3)])]
def f__law_place : Fn := { n := 6, np := 2, body := b__law_place }
def s__law_place : SEnt := ⟨"_law_place", top 67, f__law_place, ["_law_plan", "_law_name", "_law_box", "_law_boxes", "_law_up", "_law_one"], ["_law_plan", "_law_name"]⟩
def q__law_seen_0 : E := .comp (.call 48 [.var 0, .var 7]) (.one 7) (.seq (.call 45 [.var 0, .var 1])) []
def q__law_seen_1 : E := .comp (.idx (.var 8) (.int 0)) (.one 8) (.seq (.var 2)) []
def q__law_seen_2 : E := .comp (.idx (.var 8) (.int 1)) (.one 8) (.seq (.var 2)) []
def q__law_seen_3 : E := .comp (.bop .add (.idx (.var 8) (.int 0)) (.idx (.var 8) (.int 2))) (.one 8) (.seq (.var 2)) []
def q__law_seen_4 : E := .comp (.bop .add (.idx (.var 8) (.int 1)) (.idx (.var 8) (.int 3))) (.one 8) (.seq (.var 2)) []
def b__law_seen : List S := [.set 2 (q__law_seen_0), .par [(5, false), (6, false)] [.bi .max [q__law_seen_1], .bi .max [q__law_seen_2]], .set 3 (.bop .sub (.bi .min [q__law_seen_3]) (.var 5)), .set 4 (.bop .sub (.bi .min [q__law_seen_4]) (.var 6)), .ret (.ite (.land (.cmp .gt (.var 3) (.int 0)) (.cmp .gt (.var 4) (.int 0))) (.tup [.var 5, .var 6, .var 3, .var 4]) (.non))]
def f__law_seen : Fn := { n := 9, np := 2, body := b__law_seen }
def s__law_seen : SEnt := ⟨"_law_seen", top 68, f__law_seen, ["_law_plan", "_law_name", "_law_boxes", "_law_wide", "_law_high", "_law_left", "_law_top_here", "_law_up", "_law_box"], ["_law_plan", "_law_name"]⟩
def l__law_alive_0 : S := .forr (.one 2) (.seq (.call 45 [.var 0, .var 1])) [.set 3 (.idx (.call 44 [.var 0, .var 2]) (.int 4)), .ife (.lor (.cmp .inn (.str "asleep") (.var 3)) (.cmp .inn (.str "hidden") (.var 3))) [.ret (.bl false)] []]
def b__law_alive : List S := [l__law_alive_0, .ret (.bl true)]
def f__law_alive : Fn := { n := 4, np := 2, body := b__law_alive }
def s__law_alive : SEnt := ⟨"_law_alive", top 69, f__law_alive, ["_law_plan", "_law_name", "_law_up", "_law_marks"], ["_law_plan", "_law_name"]⟩
def l__law_top_0 : S := .forr (.one 2) (.seq (.var 0)) [.ife (.land (.cmp .inn (.str "sheet") (.idx (.var 2) (.int 4))) (.call 50 [.var 0, .idx (.var 2) (.int 0)])) [.set 1 (.bi .max [.var 1, .idx (.var 2) (.int 0)])] []]
def b__law_top : List S := [.set 1 (.int 0), l__law_top_0, .ret (.var 1)]
def f__law_top : Fn := { n := 3, np := 1, body := b__law_top }
def s__law_top : SEnt := ⟨"_law_top", top 70, f__law_top, ["_law_plan", "_law_over", "_law_pane"], ["_law_plan"]⟩
def b__law_open : List S := [.ret (.land (.call 50 [.var 0, .var 1]) (.cmp .inn (.call 51 [.var 0]) (.call 45 [.var 0, .var 1])))]
def f__law_open : Fn := { n := 2, np := 2, body := b__law_open }
def s__law_open : SEnt := ⟨"_law_open", top 71, f__law_open, ["_law_plan", "_law_name"], ["_law_plan", "_law_name"]⟩
def q__law_stops_0 : E := .comp (.var 2) (.one 2) (.seq (.call 47 [.var 0, .var 1])) [.land (.call 52 [.var 0, .var 2]) (.cmp .inn (.str "stop") (.idx (.call 44 [.var 0, .var 2]) (.int 4)))]
def b__law_stops : List S := [.ret (q__law_stops_0)]
def f__law_stops : Fn := { n := 3, np := 2, body := b__law_stops }
def s__law_stops : SEnt := ⟨"_law_stops", top 72, f__law_stops, ["_law_plan", "_law_name", "_law_one"], ["_law_plan", "_law_name"]⟩
def q__law_field_0 : E := .comp (.var 3) (.one 3) (.seq (.call 45 [.var 0, .var 1])) [.cmp .inn (.str "hold") (.idx (.call 44 [.var 0, .var 3]) (.int 4))]
def b__law_field : List S := [.set 2 (q__law_field_0), .ret (.idx (.bop .add (.var 2) (.lst [.call 51 [.var 0]])) (.int 0))]
def f__law_field : Fn := { n := 4, np := 2, body := b__law_field }
def s__law_field : SEnt := ⟨"_law_field", top 73, f__law_field, ["_law_plan", "_law_name", "_law_some", "_law_up"], ["_law_plan", "_law_name"]⟩
def l__law_aim_0 : S := .forr (.one 4) (.seq (.call 53 [.var 0, .call 54 [.var 0, .var 1]])) [.set 7 (.call 49 [.var 0, .var 4]), .ife (.land (.notN (.var 5)) (.land (.notN (.var 7)) (.cmp .ne (.var 4) (.var 1)))) [.set 8 (.bop .sub (.bop .sub (.idx (.var 7) (.var 3)) (.idx (.var 5) (.var 3))) (.idx (.var 5) (.bop .add (.int 2) (.var 3)))), .ife (.cmp .inn (.var 2) (.tup [.str "left", .str "above"])) [.set 8 (.bop .sub (.bop .sub (.idx (.var 5) (.var 3)) (.idx (.var 7) (.var 3))) (.idx (.var 7) (.bop .add (.int 2) (.var 3))))] [], .ife (.cmp .ge (.var 8) (.int 0)) [.set 9 (.bi .max [.int 0, .bop .add (.call 56 [.var 5, .var 7, .bop .sub (.int 1) (.var 3)]) (.int 1)]), .exp (.mth .append (.var 6) [.tup [.var 9, .var 8, .idx (.var 7) (.bop .sub (.int 1) (.var 3)), .var 4]])] []] []]
def b__law_aim : List S := [.par [(5, false), (6, true)] [.call 49 [.var 0, .var 1], .lst []], .set 3 (.bi .int [.cmp .inn (.var 2) (.tup [.str "above", .str "below"])]), l__law_aim_0, .ret (.ite (.cmp .ne (.var 6) (.lst [])) (.idx (.bi .min [.var 6]) (.int 3)) (.non))]
def f__law_aim : Fn := { n := 10, np := 3, body := b__law_aim }
def s__law_aim : SEnt := ⟨"_law_aim", top 74, f__law_aim, ["_law_plan", "_law_name", "_law_way", "_law_across", "_law_other", "_law_own", "_law_some", "_law_box", "_law_far", "_law_aside"], ["_law_plan", "_law_name", "_law_way"]⟩
def b__law_gap : List S := [.set 3 (.bop .sub (.bop .sub (.idx (.var 0) (.var 2)) (.idx (.var 1) (.var 2))) (.idx (.var 1) (.bop .add (.int 2) (.var 2)))), .ret (.bi .max [.var 3, .bop .sub (.bop .sub (.idx (.var 1) (.var 2)) (.idx (.var 0) (.var 2))) (.idx (.var 0) (.bop .add (.int 2) (.var 2)))])]
def f__law_gap : Fn := { n := 4, np := 3, body := b__law_gap }
def s__law_gap : SEnt := ⟨"_law_gap", top 75, f__law_gap, ["_law_one", "_law_other", "_law_side", "_law_ahead"], ["_law_one", "_law_other", "_law_side"]⟩
def l__law_net_0 : S := .forr (.many [5, 6]) (.enm (.call 42 [.var 0, .lrg2 (.int 1) (.bop .add (.var 2) (.int 1))])) [.set 7 (.tup [.bop .mul (.bop .mod (.var 5) (.int 6)) (.bop .add (.var 4) (.int 1)), .bop .mul (.bop .fdiv (.var 5) (.int 6)) (.bop .add (.var 4) (.int 1)), .var 4, .var 4]), .ife (.cmp .eq (.var 3) (.int 1)) [.set 7 (.tup [.bop .mul (.var 5) (.var 4), .int 3, .var 4, .bop .add (.int 1) (.call 40 [.var 0, .int 5])])] [], .ife (.cmp .eq (.var 3) (.int 2)) [.set 7 (.tup [.call 40 [.var 0, .int 50], .call 40 [.var 0, .int 50], .bop .add (.int 1) (.call 40 [.var 0, .int 9]), .bop .add (.int 1) (.call 40 [.var 0, .int 9])])] [], .exp (.mth .append (.var 1) [.tup [.var 6, .int 0, .var 7, .int 0, .tup [.str "stop"], .tup []]])]
def b__law_net : List S := [.par [(2, false), (3, false), (4, false)] [.bop .add (.int 2) (.call 40 [.var 0, .int 19]), .call 40 [.var 0, .int 3], .bop .add (.int 1) (.call 40 [.var 0, .int 4])], .setM 1 (.lst [.tup [.int 0, .non, .tup [.int 0, .int 0, .int 60, .int 60], .int 0, .tup [], .tup []]]), l__law_net_0, .ret (.bi .tuple [.bi .sorted [.var 1]])]
def f__law_net : Fn := { n := 8, np := 1, body := b__law_net }
def s__law_net : SEnt := ⟨"_law_net", top 76, f__law_net, ["_law_pen_here", "_law_panes", "_law_many", "_law_way", "_law_side", "_law_at", "_law_name", "_law_box"], ["_law_pen_here"]⟩
def l_law_0 : S := .forr (.one 5) (.seq (.lst [.str "above", .str "below", .str "left", .str "right"])) [.ife (.lnot (.call 43 [.call 37 [.var 3, .var 4, .var 5], .call 55 [.var 3, .var 4, .var 5]])) [.ret (.bl false)] []]
def l_law_1 : S := .forr (.one 1) (.seq (.bop .add (.lst [.call 38 [.var 0, .int 0]]) (.slc (.var 0) true true (.int 1) (.int 2)))) [.setM 2 (.call 39 [.var 1]), .set 3 (.call 57 [.var 2]), .set 4 (.idx (.call 41 [.var 2, .slc (.var 3) true false (.int 1) .non]) (.int 0)), l_law_0]
def b_law : List S := [l_law_1, .ret (.bl true)]
def f_law : Fn := { n := 6, np := 1, body := b_law }
def s_law : SEnt := ⟨"law", top 77, f_law, ["_law_script", "_law_cell_here", "_law_pen_here", "_law_plan", "_law_name", "_law_way"], ["_law_script"]⟩
def defs : List SEnt := [s_is_number, s_is_name, s_is_box, s_is_key, s_is_way, s_is_mark, s_is_deed, s_rises, s_are_marks, s_is_known, s_are_keys, s_is_pane, s_is_ground, s_is_rooted, s_fits_in, s_is_plan, s_see_plan, s_has_name, s_see_name, s_the_pane, s_going_up, s_in_order, s_walked, s_is_dead, s_alive, s_top_sheet, s_opens, s_takes_keys, s_placed, s_seen_in, s_stops_in, s_field_in, s_see_hold, s_spans_of, s_gap_of, s_rank_of, s_aimed, s_aim, s__law_cell, s__law_pen, s__law_draw, s__law_pick, s__law_mixed, s__law_same, s__law_by, s__law_ups, s__law_parts, s__law_walk, s__law_place, s__law_seen, s__law_alive, s__law_top, s__law_open, s__law_stops, s__law_field, s__law_aim, s__law_gap, s__law_net, s_law]
def csts : List (Str × Cst) := [("MOST_PANES", .int 40), ("MOST_KEYS", .int 20), ("FAR", .int 1000000), ("MARKS", .tstr ["asleep", "hidden", "hold", "one", "sheet", "stop"]), ("WAYS", .tstr ["above", "back", "below", "in", "left", "next", "out", "right"]), ("KEY_SIGNS", .str "abcdefghijklmnopqrstuvwxyz0123456789"), ("ARROWS", .tstr ["above", "below", "left", "right"])]
def namesOf : List PySem.Str := (["__name__", "KeysError", "NoPlan", "NoName", "NoHold", "NoWay", "MOST_PANES", "MOST_KEYS", "FAR", "MARKS", "WAYS", "KEY_SIGNS", "is_number", "is_name", "is_box", "is_key", "is_way", "is_mark", "is_deed", "rises", "are_marks", "is_known", "are_keys", "is_pane", "is_ground", "is_rooted", "fits_in", "is_plan", "see_plan", "has_name"] : List PySem.Str) ++ (["see_name", "the_pane", "going_up", "in_order", "walked", "is_dead", "alive", "top_sheet", "opens", "takes_keys", "placed", "seen_in", "stops_in", "field_in", "ARROWS", "see_hold", "spans_of", "gap_of", "rank_of", "aimed", "aim", "_law_cell", "_law_pen", "_law_draw", "_law_pick", "_law_mixed", "_law_same", "_law_by", "_law_ups", "_law_parts"] : List PySem.Str) ++ (["_law_walk", "_law_place", "_law_seen", "_law_alive", "_law_top", "_law_open", "_law_stops", "_law_field", "_law_aim", "_law_gap", "_law_net"] : List PySem.Str)
abbrev R : PySem.W.OpenRow := PySem.W.OpenLaw.row PySem.Challenge.rw_keypanes_k19_arrows_among_many
abbrev hk : PySem.W.Hook := He.hookX 4 (faOf defs csts) (fnOf defs) [] [] (exOf csts)
def ob (s : PySem.W.SharedT) : He.AlX := He.obsX 4 (faOf defs csts) (fnOf defs) [] [] (exOf csts) (HandSHeadRun.getT s)
theorem ob_eq (s : PySem.W.SharedT) : ob s = hk.obs s.abs := He.obsX_eq (HandSHeadRun.getT_eq s)
theorem run (w : World) : HandSHeadRun.RunEq R (PySem.W.view R.prog [77]) hk ob 4000 namesOf w := by
  intro os
  kernel_rfl

theorem chk : (defs.all fun s => sChk (idsOf 0 defs) (ownsOf 0 defs) (csts.map (·.1)) s) = true := by decide +kernel
end k19
end Kp
end

section
set_option Elab.async false
set_option linter.all false
set_option maxRecDepth 100000
set_option maxHeartbeats 2000077
/-! L0: how the terms are reckoned. -/
namespace Kp
open PySem
section
variable {Φ : Calls} {G : Globs} {env : Env} {m : Store}
theorem v_var {i : Nat} : evE Φ G (.var i) env m = match env[i]? with | some (some v) => .ok v m | _ => .stuck := rfl
theorem v_int {i : Int} : evE Φ G (.int i) env m = .ok (.d (.int i)) m := rfl
theorem v_bl {i : Bool} : evE Φ G (.bl i) env m = .ok (.d (.bool i)) m := rfl
theorem v_non : evE Φ G .non env m = .ok (.d .none) m := rfl
theorem v_str {i : Str} : evE Φ G (.str i) env m = .ok (.d (.str i)) m := rfl
theorem v_glb {x : Str} : evE Φ G (.glb x) env m = ofD (G x) m := rfl
theorem v_tup {es : List E} : evE Φ G (.tup es) env m = (evEs Φ G es env m).bind fun vs m => ofD ((pureD vs).map .tuple) m := rfl
theorem v_lst {es : List E} : evE Φ G (.lst es) env m = (evEs Φ G es env m).bind fun vs m => ofD ((pureD vs).map .list) m := rfl
theorem v_bop {o : Bop} {a b : E} : evE Φ G (.bop o a b) env m = (evE Φ G a env m).bind fun x m => (evE Φ G b env m).bind fun y m => match dOf x m, dOf y m with
    | some x, some y => ofD (bopD o x y) m
    | _, _ => .stuck := rfl
theorem v_neg {a : E} : evE Φ G (.neg a) env m = (evE Φ G a env m).bind fun x m => match x with
    | .d (.int i) => .ok (.d (.int (-i))) m
    | _ => .stuck := rfl
theorem v_cmp {o : Cop} {a b : E} : evE Φ G (.cmp o a b) env m = (evE Φ G a env m).bind fun x m => (evE Φ G b env m).bind fun y m => match dOf x m, dOf y m with
    | some x, some y => ofB (cmpD o x y) m
    | _, _ => .stuck := rfl
theorem v_chn {o p : Cop} {a b c : E} : evE Φ G (.chn o p a b c) env m = (evE Φ G a env m).bind fun x m => (evE Φ G b env m).bind fun y m => match x, y with
    | .d (.int i), .d (.int j) => match cmpD o (.int i) (.int j) with
      | some true => (evE Φ G c env m).bind fun z m => match z with
        | .d (.int k) => ofB (cmpD p (.int j) (.int k)) m
        | _ => .stuck
      | some false => .ok (.d (.bool false)) m
      | none => .stuck
    | _, _ => .stuck := rfl
theorem v_isN {a : E} : evE Φ G (.isN a) env m = (evE Φ G a env m).bind fun x m => .ok (.d (.bool (isNon x))) m := rfl
theorem v_notN {a : E} : evE Φ G (.notN a) env m = (evE Φ G a env m).bind fun x m => .ok (.d (.bool (!isNon x))) m := rfl
theorem v_land {a b : E} : evE Φ G (.land a b) env m = (evE Φ G a env m).bind fun x m => (asB x m).bind fun x m => if x then evE Φ G b env m else .ok (.d (.bool false)) m := rfl
theorem v_lor {a b : E} : evE Φ G (.lor a b) env m = (evE Φ G a env m).bind fun x m => (asB x m).bind fun x m => if x then .ok (.d (.bool true)) m else evE Φ G b env m := rfl
theorem v_lnot {a : E} : evE Φ G (.lnot a) env m = (evE Φ G a env m).bind fun x m => (asB x m).bind fun x m => .ok (.d (.bool (!x))) m := rfl
theorem v_ite {c a b : E} : evE Φ G (.ite c a b) env m = (evE Φ G c env m).bind fun x m => (asB x m).bind fun x m => if x then evE Φ G a env m else evE Φ G b env m := rfl
theorem v_call {f : Nat} {es : List E} : evE Φ G (.call f es) env m = (evEs Φ G es env m).bind fun vs m => Φ f vs m := rfl
theorem v_bi {f : Bi} {es : List E} : evE Φ G (.bi f es) env m = (evEs Φ G es env m).bind fun vs m => match dsOf vs m with
    | some ds => ofD (biD f ds) m
    | none => .stuck := rfl
theorem v_mth {f : Mt} {o : E} {es : List E} : evE Φ G (.mth f o es) env m = (evE Φ G o env m).bind fun o m => if recvOk f o m then (evEs Φ G es env m).bind fun vs m => match (if f = .append then pureD vs else dsOf vs m) with
      | some ds => mthV f o ds m
      | none => .stuck
    else .stuck := rfl
theorem v_idx {a b : E} : evE Φ G (.idx a b) env m = (evE Φ G a env m).bind fun x m => (evE Φ G b env m).bind fun y m => match dOf x m, dOf y m with
    | some x, some y => ofD (idxD x y) m
    | _, _ => .stuck := rfl
theorem v_slc {a lo hi : E} {hl hh : Bool} : evE Φ G (.slc a hl hh lo hi) env m = (evE Φ G a env m).bind fun x m =>
      (if hl then (evE Φ G lo env m).bind fun l m => match l with | .d (.int i) => .ok (some i) m | _ => .stuck else .ok none m).bind fun l m =>
      (if hh then (evE Φ G hi env m).bind fun l m => match l with | .d (.int i) => .ok (some i) m | _ => .stuck else .ok none m).bind fun h m => match dOf x m with
        | some x => ofD (slcD x l h) m
        | none => .stuck := rfl
theorem v_rev {a : E} : evE Φ G (.rev a) env m = (evE Φ G a env m).bind fun x m => match dOf x m with
    | some x => ofD (revD x) m
    | none => .stuck := rfl
theorem v_isi {a : E} {ts : List Ty} : evE Φ G (.isi a ts) env m = (evE Φ G a env m).bind fun x m => match dOf x m with
    | some x => .ok (.d (.bool (ts.any (isTy x)))) m
    | none => .stuck := rfl
theorem v_lrg1 {a : E} : evE Φ G (.lrg1 a) env m = (evE Φ G a env m).bind fun v m => match v with
    | .d (.int j) => if inRange j && decide (j ≤ PySem.sizeLine) then .ok (.d (.list (intRange 0 j))) m else .stuck
    | _ => .stuck := rfl
theorem v_lrg2 {a b : E} : evE Φ G (.lrg2 a b) env m = (evE Φ G a env m).bind fun x m => (evE Φ G b env m).bind fun y m => match x, y with
    | .d (.int i), .d (.int j) => if inRange i && inRange j && decide (j - i ≤ PySem.sizeLine) then .ok (.d (.list (intRange i j))) m else .stuck
    | _, _ => .stuck := rfl
theorem compF_map {n : Nat} (hn : m.length = n) {f : D → Store → Out (Option D)} {g : D → D} {p : D → Bool} : ∀ {xs acc : List D}, (∀ x ∈ xs, ∀ acc, f x (m ++ [.lst acc]) = .ok (if p x then some (g x) else none) (m ++ [.lst acc])) → acc.length + xs.length ≤ sizeLine →
    compF n f xs (m ++ [.lst acc]) = .ok (acc ++ (xs.filter p).map g) m
  | [], acc, _, _ => by
    subst hn
    simp [compF]
  | x :: xs, acc, h, hl => by
    have hx := h x (by simp) acc
    simp only [List.length_cons] at hl
    simp only [compF, hx]
    by_cases hp : p x = true
    · rw [if_pos hp]
      have e1 : (m ++ [Ob.lst acc])[n]? = some (.lst acc) := by subst hn; simp
      have e2 : (m ++ [Ob.lst acc]).set n (.lst (acc ++ [g x])) = m ++ [.lst (acc ++ [g x])] := by subst hn; simp
      simp only [e1]
      rw [if_pos (by omega), e2, compF_map hn (fun y hy => h y (List.mem_cons_of_mem _ hy)) (by simp; omega)]
      simp [List.filter_cons, hp]
    · rw [if_neg hp]
      simp only
      rw [compF_map hn (fun y hy => h y (List.mem_cons_of_mem _ hy)) (by omega)]
      simp [List.filter_cons, hp]
/-- [elt for tg in it if c] -/
theorem comp_if {elt c : E} {tg : Tg} {it : It} {items : List D} (p : D → Bool) (g : D → D) (hit : evIt Φ G it env m = .ok items m) (hl : items.length ≤ sizeLine)
    (h : ∀ x ∈ items, ∀ acc, ∃ env', setTg tg x (wipeE env (tgSlots tg)) = some env' ∧ evE Φ G c env' (m ++ [.lst acc]) = .ok (.d (.bool (p x))) (m ++ [.lst acc]) ∧ (p x = true → evE Φ G elt env' (m ++ [.lst acc]) = .ok (.d (g x)) (m ++ [.lst acc]))) :
    evE Φ G (.comp elt tg it [c]) env m = .ok (.d (.list ((items.filter p).map g))) m := by
  simp only [evE, hit, bind_ok]
  rw [compF_map (p := p) (g := g) (acc := []) rfl (fun x hx acc => ?_) (by simpa using hl)]
  · rfl
  · obtain ⟨env', h1, h2, h3⟩ := h x hx acc
    simp only [h1, evIfs, h2, bind_ok, asB]
    cases hp : p x with
    | true => simp [h3 hp]
    | false => simp
theorem comp_map {elt : E} {tg : Tg} {it : It} {items : List D} (g : D → D) (hit : evIt Φ G it env m = .ok items m) (hl : items.length ≤ sizeLine)
    (h : ∀ x ∈ items, ∀ acc, ∃ env', setTg tg x (wipeE env (tgSlots tg)) = some env' ∧ evE Φ G elt env' (m ++ [.lst acc]) = .ok (.d (g x)) (m ++ [.lst acc])) :
    evE Φ G (.comp elt tg it []) env m = .ok (.d (.list (items.map g))) m := by
  simp only [evE, hit, bind_ok]
  rw [compF_map (p := fun _ => true) (g := g) (acc := []) rfl (fun x hx acc => ?_) (by simpa using hl)]
  · rw [List.filter_eq_self.mpr (by simp)]; rfl
  · obtain ⟨env', h1, h3⟩ := h x hx acc
    simp only [h1, evIfs, bind_ok, if_true, h3]
/-- as pairs of an item and what comes of it -/
inductive Two (F : D → D → Prop) : List D → List D → Prop
  | nil : Two F [] []
  | cons {x y : D} {xs ys : List D} : F x y → Two F xs ys → Two F (x :: xs) (y :: ys)
theorem Two.len {F : D → D → Prop} : ∀ {xs ys : List D}, Two F xs ys → xs.length = ys.length
  | _, _, .nil => rfl
  | _, _, .cons _ t => congrArg (· + 1) t.len
theorem compF_two {n : Nat} (hn : m.length = n) {f : D → Store → Out (Option D)} : ∀ {xs ys acc : List D}, Two (fun x y => ∀ acc : List D, f x (m ++ [Ob.lst acc]) = .ok (some y) (m ++ [Ob.lst acc])) xs ys → acc.length + xs.length ≤ sizeLine →
    compF n f xs (m ++ [Ob.lst acc]) = .ok (acc ++ ys) m
  | _, _, acc, .nil, _ => by
    subst hn
    simp [compF]
  | x :: xs, y :: ys, acc, .cons h t, hl => by
    simp only [List.length_cons] at hl
    have e1 : (m ++ [Ob.lst acc])[n]? = some (.lst acc) := by subst hn; simp
    have e2 : (m ++ [Ob.lst acc]).set n (.lst (acc ++ [y])) = m ++ [.lst (acc ++ [y])] := by subst hn; simp
    simp only [compF, h acc, e1]
    rw [if_pos (by omega), e2, compF_two hn t (by simp; omega)]
    simp
theorem comp_two {elt : E} {tg : Tg} {it : It} {items ys : List D} (hit : evIt Φ G it env m = .ok items m) (hl : items.length ≤ sizeLine)
    (h : Two (fun x y => ∀ acc : List D, ∃ env', setTg tg x (wipeE env (tgSlots tg)) = some env' ∧ evE Φ G elt env' (m ++ [Ob.lst acc]) = .ok (.d y) (m ++ [Ob.lst acc])) items ys) :
    evE Φ G (.comp elt tg it []) env m = .ok (.d (.list ys)) m := by
  have h' : Two (fun x y => ∀ acc : List D, (match setTg tg x (wipeE env (tgSlots tg)) with
        | some env => (evIfs Φ G [] env (m ++ [Ob.lst acc])).bind fun b m => if b then (evE Φ G elt env m).bind fun v m => match v with
            | .d y => .ok (some y) m
            | _ => .stuck
          else .ok none m
        | none => .stuck) = .ok (some y) (m ++ [Ob.lst acc])) items ys := by
    clear hit hl
    induction h with
    | nil => exact .nil
    | cons h1 _ ih =>
      refine .cons (fun acc => ?_) ih
      obtain ⟨env', e1, e2⟩ := h1 acc
      simp only [e1, evIfs, bind_ok, if_true, e2]
  simp only [evE, hit, bind_ok]
  rw [compF_two (acc := []) rfl h' (by simpa using hl)]
  rfl
/-- a loop that goes on to its end -/
theorem for_inv {b : D → Env → Store → Out Flow} {α : Type} (F : α → Env × Store) (step : D → α → α) : ∀ (xs : List D) (a : α), (∀ x ∈ xs, ∀ a, b x (F a).1 (F a).2 = .ok (.next (F (step x a)).1) (F (step x a)).2) →
    forF b xs (F a).1 (F a).2 = .ok (.next (F (xs.foldl (fun a x => step x a) a)).1) (F (xs.foldl (fun a x => step x a) a)).2
  | [], a, _ => rfl
  | x :: xs, a, h => by
    simp only [forF, h x (by simp) a, bind_ok]
    exact for_inv F step xs (step x a) fun y hy => h y (List.mem_cons_of_mem _ hy)
/-- a loop by what holds at each turn -/
theorem for_ok {b : D → Env → Store → Out Flow} (I : Nat → Env → Store → Prop) : ∀ (xs : List D) (i : Nat) (env : Env) (m : Store), I i env m → (∀ j x env m, xs[j]? = some x → I (i + j) env m → ∃ env' m', b x env m = .ok (.next env') m' ∧ I (i + j + 1) env' m') →
    ∃ env' m', forF b xs env m = .ok (.next env') m' ∧ I (i + xs.length) env' m'
  | [], i, env, m, h, _ => ⟨env, m, rfl, h⟩
  | x :: xs, i, env, m, h, k => by
    obtain ⟨env', m', h1, h2⟩ := k 0 x env m rfl h
    obtain ⟨env2, m2, h3, h4⟩ := for_ok I xs (i + 1) env' m' h2 fun j y e s hj hI => by
      have e1 : i + 1 + j = i + (j + 1) := by omega
      rw [e1] at hI ⊢
      exact k (j + 1) y e s (by simpa using hj) hI
    refine ⟨env2, m2, by simp only [forF, h1, bind_ok]; exact h3, ?_⟩
    have e1 : i + 1 + xs.length = i + (x :: xs).length := by simp; omega
    rw [← e1]
    exact h4
/-- a loop by the turns that are left -/
theorem while_ok {c : Env → Store → Out Bool} {b : Env → Store → Out Flow} (I : Nat → Env → Store → Prop) (h1 : ∀ k env m, I (k + 1) env m → c env m = .ok true m ∧ ∃ env' m', b env m = .ok (.next env') m' ∧ I k env' m') (h0 : ∀ env m, I 0 env m → c env m = .ok false m) :
    ∀ (k n : Nat) (env : Env) (m : Store), k < n → I k env m → ∃ env' m', whileF c b n env m = .ok (.next env') m' ∧ I 0 env' m'
  | k, 0, env, m, hn, _ => absurd hn (Nat.not_lt_zero _)
  | 0, n + 1, env, m, _, h => ⟨env, m, by simp [whileF, h0 env m h], h⟩
  | k + 1, n + 1, env, m, hn, h => by
    obtain ⟨c1, env', m', b1, h'⟩ := h1 k env m h
    obtain ⟨env2, m2, e2, h2⟩ := while_ok I h1 h0 k n env' m' (by omega) h'
    exact ⟨env2, m2, by simp only [whileF, c1, bind_ok, if_true, b1]; exact e2, h2⟩
theorem s_whl {c : E} {b : List S} : evS Φ G (.whl c b) env m = whileF (fun env m => (evE Φ G c env m).bind asB) (fun env m => evSs Φ G b env m) whileN env m := rfl
theorem look_put {kvs : List (Key × D)} {k k' : Key} {d : D} : lookK (putK kvs k d) k' = if k = k' then some d else lookK kvs k' := by
  unfold putK
  split
  · rename_i h
    induction kvs with
    | nil => simp at h
    | cons p r ih =>
      by_cases hp : p.1 = k
      · by_cases hk : k = k'
        · subst hk; simp [lookK, List.find?_cons, hp]
        · have hp' : ¬ p.1 = k' := fun q => hk (hp.symm.trans q)
          simp only [lookK, List.map_cons, if_pos hp, List.find?_cons, hp', decide_false, hk, if_false] at ih ⊢
          by_cases hr : (r.any fun kv => decide (kv.1 = k)) = true
          · have := ih hr
            simpa [hk] using this
          · have : r.map (fun kv => if kv.1 = k then (kv.1, d) else kv) = r := by
              refine (List.map_congr_left fun q hq => ?_).trans (List.map_id r)
              have : ¬ q.1 = k := fun e => hr (List.any_eq_true.mpr ⟨q, hq, decide_eq_true e⟩)
              simp [this]
            rw [this]
      · have hr : (r.any fun kv => decide (kv.1 = k)) = true := by
          rw [List.any_cons, decide_eq_false hp, Bool.false_or] at h
          exact h
        have := ih hr
        by_cases hp' : p.1 = k'
        · subst hp'
          have hk : ¬ k = p.1 := fun q => hp q.symm
          rw [List.map_cons, if_neg hp, if_neg hk]
          simp [lookK, List.find?_cons]
        · simp only [lookK, List.map_cons, if_neg hp, List.find?_cons, hp', decide_false] at this ⊢
          exact this
  · rename_i h
    have hno : ∀ p ∈ kvs, ¬ p.1 = k := fun p hp e => h (List.any_eq_true.mpr ⟨p, hp, decide_eq_true e⟩)
    clear h
    induction kvs with
    | nil =>
      by_cases hk : k = k' <;> simp [lookK, List.find?_cons, hk]
    | cons p r ih =>
      have hp := hno p (by simp)
      have := ih fun q hq => hno q (List.mem_cons_of_mem _ hq)
      by_cases hp' : p.1 = k'
      · have hk : ¬ k = k' := fun q => hp (hp'.trans q.symm)
        simp [lookK, List.find?_cons, hp', hk]
      · simp only [lookK, List.cons_append, List.find?_cons, hp', decide_false] at this ⊢
        exact this
theorem put_len {kvs : List (Key × D)} {k : Key} {d : D} : (putK kvs k d).length ≤ kvs.length + 1 := by
  unfold putK
  split <;> simp
theorem shaped_list {l : List D} {k : Nat} (hk : k ≤ 63) (h : ∀ d ∈ l, d.canLay0 = true ∧ d.depth ≤ k) : SeqAt.shaped (.list l) = true := by
  unfold SeqAt.shaped
  have key : ∀ l : List D, (∀ d ∈ l, d.canLay0 = true ∧ d.depth ≤ k) → PyData.canLayAll0 l = true ∧ PyData.depthAll l ≤ k := by
    intro l
    induction l with
    | nil => intro _; exact ⟨rfl, Nat.zero_le _⟩
    | cons a r ih =>
      intro h
      obtain ⟨i1, i2⟩ := ih fun d hd => h d (List.mem_cons_of_mem _ hd)
      obtain ⟨j1, j2⟩ := h a (by simp)
      refine ⟨by simp [PyData.canLayAll0, i1, j1], ?_⟩
      simp only [PyData.depthAll]
      omega
  obtain ⟨i1, i2⟩ := key l h
  have i3 : (PyData.list l).depth = PyData.depthAll l + 1 := by simp only [PyData.depth]
  rw [show (PyData.list l).canLay0 = PyData.canLayAll0 l by simp only [PyData.canLay0], i1, i3]
  exact decide_eq_true (by omega)
theorem filt_no {α : Type} (l : List α) : l.filter (fun _ => false) = [] := by simp
theorem unKeys_to : ∀ kvs : List (Key × D), unKeys (kvs.map fun p => (keyD p.1, p.2)) = some kvs
  | [] => rfl
  | (k, d) :: r => by
    have : toKey (keyD k) = some k := by cases k <;> rfl
    simp only [List.map_cons, unKeys, this, unKeys_to r]
theorem in_dict (k : Key) (kvs : List (Key × D)) : inD (keyD k) (dictD kvs) = some (lookK kvs k).isSome := by
  have : toKey (keyD k) = some k := by cases k <;> rfl
  simp only [inD, dictD, this, unKeys_to]
theorem in_dictI (i : Int) (kvs : List (Key × D)) : inD (.int i) (dictD kvs) = some (lookK kvs (.inl i)).isSome := in_dict (.inl i) kvs
theorem idx_dictI (i : Int) (kvs : List (Key × D)) : idxD (dictD kvs) (.int i) = lookK kvs (.inl i) := by
  simp only [idxD, dictD, toKey, unKeys_to]
theorem ne_nil {l : List D} {k : Nat} (hl : l ≠ []) (hk : k ≤ 63) (h : ∀ d ∈ l, d.canLay0 = true ∧ d.depth ≤ k) : cmpD .ne (.list l) (.list []) = some true := by
  have h1 := shaped_list hk h
  have h2 : SeqAt.shaped (.list []) = true := by decide
  have h3 : PyData.eqv (.list l) (.list []) = false := by
    cases l with
    | nil => exact absurd rfl hl
    | cons a r => simp [PyData.eqv, PyData.eqvAll]
  simp only [cmpD, cmpable, h1, h2, Bool.and_self, Bool.or_true, if_true, h3, Bool.not_false]
theorem nil_ne : cmpD .ne (.list []) (.list []) = some false := by decide
theorem v_dic {es : List E} : evE Φ G (.dic es) env m = (evEs Φ G es env (m ++ [.dict []])).bind fun vs m1 => match m1[m.length]?, pairsUp vs with
    | some (.dict []), some kvs => .ok (.d (dictD (kvs.foldl (fun a p => putK a p.1 p.2) []))) (m1.take m.length)
    | _, _ => .stuck := rfl
theorem thaw_l {l : List D} : thaw (.d (.list l)) m = .ok (.loc m.length) (m ++ [.lst l]) := rfl
theorem thaw_d {kvs : List (Key × D)} : thaw (.d (dictD kvs)) m = .ok (.loc m.length) (m ++ [.dict kvs]) := by
  simp only [thaw, dictD, unKeys_to]
theorem get_end {o : Ob} : (m ++ [o])[m.length]? = some o := by simp
theorem get_end2 {o p : Ob} : (m ++ [o] ++ [p])[m.length]? = some o := by simp
theorem get2a {o p : Ob} : (m ++ [o, p])[m.length]? = some o := by simp
theorem get2b {o p : Ob} : (m ++ [o, p])[m.length + 1]? = some p := by simp [List.getElem?_append_right]
theorem set2a {o p q : Ob} : (m ++ [o, p]).set m.length q = m ++ [q, p] := by simp
theorem set2b {o p q : Ob} : (m ++ [o, p]).set (m.length + 1) q = m ++ [o, q] := by simp [List.set_append]
theorem set_end {o p : Ob} : (m ++ [o]).set m.length p = m ++ [p] := by simp
theorem cut1 {a : D} {l : List D} : cut (a :: l) (some 1) none = l := by
  unfold cut HT.sIx
  simp
/-- one turn of a for -/
def bodyF (Φ : Calls) (G : Globs) (tg : Tg) (b : List S) (x : D) (env : Env) (m : Store) : Out Flow := match setTg tg x env with
  | some env => evSs Φ G b env m
  | none => .stuck
theorem s_for {tg : Tg} {it : It} {b : List S} : evS Φ G (.forr tg it b) env m = (evIt Φ G it env m).bind fun xs m => forF (bodyF Φ G tg b) xs env m := rfl
theorem body_ok {tg : Tg} {b : List S} {x : D} {env' : Env} (h : setTg tg x env = some env') : bodyF Φ G tg b x env m = evSs Φ G b env' m := by
  unfold bodyF
  rw [h]
theorem all_bools {l : List D} {α : Type} {k : List α} {p : α → Bool} (h : l = k.map fun a => .bool (p a)) : biD .all [.list l] = some (.bool (k.all p)) := by
  subst h
  have : boolsOf (k.map fun a => PyData.bool (p a)) = some (k.map p) := by
    induction k with
    | nil => rfl
    | cons a r ih => simp [boolsOf, ih]
  simp [biD, this, Function.comp_def]
end
end Kp
end

section
set_option Elab.async false
set_option linter.all false
set_option maxRecDepth 100000
set_option maxHeartbeats 2000077
namespace Kp
namespace k19
open PySem
abbrev Cn (n : Nat) : Calls := callN (Bs defs) (Gc csts) n
theorem call_def {n i : Nat} {fn : Fn} {vs : List Val} {m : Store} (h : Bs defs i = some fn) (hl : vs.length = fn.np) : Cn (n + 1) i vs m = exitF m.length (evSs (Cn n) (Gc csts) fn.body (startE fn vs) m) := by
  simp only [Cn, callN, h, if_pos hl]
theorem up1 {n : Nat} (h : 1 ≤ n) : ∃ k, n = k + 1 := ⟨n - 1, by omega⟩
theorem g_FAR : Gc csts "FAR" = some (.int 1000000) := by kernel_rfl
theorem g_MP : Gc csts "MOST_PANES" = some (.int 40) := by kernel_rfl
theorem g_MK : Gc csts "MOST_KEYS" = some (.int 20) := by kernel_rfl
theorem g_MARKS : Gc csts "MARKS" = some (.tuple [.str "asleep", .str "hidden", .str "hold", .str "one", .str "sheet", .str "stop"]) := by kernel_rfl
theorem g_WAYS : Gc csts "WAYS" = some (.tuple [.str "above", .str "back", .str "below", .str "in", .str "left", .str "next", .str "out", .str "right"]) := by kernel_rfl
theorem g_ARROWS : Gc csts "ARROWS" = some (.tuple [.str "above", .str "below", .str "left", .str "right"]) := by kernel_rfl
theorem szl {n : Nat} (h : n ≤ 1000) : n ≤ sizeLine := by rw [sizeLine_eq]; omega
theorem c_is_number {n : Nat} (hn : 1 ≤ n) (m : Store) (t l g : Int) : Cn n 0 [.d (.int t), .d (.int l), .d (.int g)] m = .ok (.d (.bool (decide (l ≤ t) && decide (t ≤ g)))) m := by
  obtain ⟨n, rfl⟩ := up1 hn
  rw [call_def (fn := f_is_number) rfl rfl]
  by_cases h1 : l ≤ t <;> by_cases h2 : t ≤ g <;> simp [f_is_number, b_is_number, evSs, evS, v_var, v_int, v_bl, v_non, v_str, v_glb, v_tup, v_lst, v_bop, v_neg, v_cmp, v_chn, v_isN, v_notN, v_land, v_lor, v_lnot, v_ite, v_call, v_bi, v_mth, v_idx, v_slc, v_rev, v_isi, v_lrg1, v_lrg2, evEs, evIfs, evIt, evPar, bind_ok, asB, dOf, dsOf, pureD, ofD, ofB, isNon, exitF, exitV, startE, List.length_cons, List.length_nil, List.map_cons, List.map_nil, List.cons_append, List.nil_append, List.append_nil, List.replicate, List.getElem?_cons_zero, List.getElem?_cons_succ, List.take_length, Option.map_some, Option.map_none, if_true, if_false, Bool.false_eq_true, Bool.not_true, Bool.not_false, List.any_cons, List.any_nil, Bool.or_false, isTy, List.set_cons_zero, List.set_cons_succ, setTg, wipeE, tgSlots, seqItems, biD, bopD, cmpD, List.zip_cons_cons, List.zip_nil_left, List.zip_nil_right, List.foldl_cons, List.foldl_nil, if_neg, Nat.reduceAdd, Nat.reduceSub, reduceIte, h1, h2]
theorem c_is_name {n : Nat} (hn : 2 ≤ n) (m : Store) (t : Int) : Cn n 1 [.d (.int t)] m = .ok (.d (.bool (decide (0 ≤ t) && decide (t ≤ 1000000)))) m := by
  obtain ⟨n, rfl⟩ := up1 (by omega : 1 ≤ n)
  rw [call_def (fn := f_is_name) rfl rfl]
  simp [f_is_name, b_is_name, evSs, evS, v_var, v_int, v_bl, v_non, v_str, v_glb, v_tup, v_lst, v_bop, v_neg, v_cmp, v_chn, v_isN, v_notN, v_land, v_lor, v_lnot, v_ite, v_call, v_bi, v_mth, v_idx, v_slc, v_rev, v_isi, v_lrg1, v_lrg2, evEs, evIfs, evIt, evPar, bind_ok, asB, dOf, dsOf, pureD, ofD, ofB, isNon, exitF, exitV, startE, List.length_cons, List.length_nil, List.map_cons, List.map_nil, List.cons_append, List.nil_append, List.append_nil, List.replicate, List.getElem?_cons_zero, List.getElem?_cons_succ, List.take_length, Option.map_some, Option.map_none, if_true, if_false, Bool.false_eq_true, Bool.not_true, Bool.not_false, List.any_cons, List.any_nil, Bool.or_false, isTy, List.set_cons_zero, List.set_cons_succ, setTg, wipeE, tgSlots, seqItems, biD, bopD, cmpD, List.zip_cons_cons, List.zip_nil_left, List.zip_nil_right, List.foldl_cons, List.foldl_nil, if_neg, Nat.reduceAdd, Nat.reduceSub, reduceIte, g_FAR, c_is_number (by omega : 1 ≤ n)]
theorem c_is_box {n : Nat} (hn : 2 ≤ n) (m : Store) (x y w h : Int) (b1 : -1000000 ≤ x ∧ x ≤ 1000000) (b2 : -1000000 ≤ y ∧ y ≤ 1000000) (b3 : 1 ≤ w ∧ w ≤ 1000000) (b4 : 1 ≤ h ∧ h ≤ 1000000) :
    Cn n 2 [.d (.tuple [.int x, .int y, .int w, .int h])] m = .ok (.d (.bool true)) m := by
  obtain ⟨n, rfl⟩ := up1 (by omega : 1 ≤ n)
  rw [call_def (fn := f_is_box) rfl rfl]
  have q0 : evE (Cn n) (Gc csts) q_is_box_0 [some (.d (.tuple [.int x, .int y, .int w, .int h])), none] m = .ok (.d (.list [.bool true, .bool true])) m := by
    refine (comp_map (items := [.int x, .int y]) (fun _ => .bool true) (by simp [evSs, evS, v_var, v_int, v_bl, v_non, v_str, v_glb, v_tup, v_lst, v_bop, v_neg, v_cmp, v_chn, v_isN, v_notN, v_land, v_lor, v_lnot, v_ite, v_call, v_bi, v_mth, v_idx, v_slc, v_rev, v_isi, v_lrg1, v_lrg2, evEs, evIfs, evIt, evPar, bind_ok, asB, dOf, dsOf, pureD, ofD, ofB, isNon, exitF, exitV, startE, List.length_cons, List.length_nil, List.map_cons, List.map_nil, List.cons_append, List.nil_append, List.append_nil, List.replicate, List.getElem?_cons_zero, List.getElem?_cons_succ, List.take_length, Option.map_some, Option.map_none, if_true, if_false, Bool.false_eq_true, Bool.not_true, Bool.not_false, List.any_cons, List.any_nil, Bool.or_false, isTy, List.set_cons_zero, List.set_cons_succ, setTg, wipeE, tgSlots, seqItems, biD, bopD, cmpD, List.zip_cons_cons, List.zip_nil_left, List.zip_nil_right, List.foldl_cons, List.foldl_nil, if_neg, Nat.reduceAdd, Nat.reduceSub, reduceIte, slcD, cut, HT.sIx]) (szl (by simp)) fun z hz acc => ?_)
    rcases (by simpa using hz : z = .int x ∨ z = .int y) with rfl | rfl
    · exact ⟨_, rfl, by simp [evSs, evS, v_var, v_int, v_bl, v_non, v_str, v_glb, v_tup, v_lst, v_bop, v_neg, v_cmp, v_chn, v_isN, v_notN, v_land, v_lor, v_lnot, v_ite, v_call, v_bi, v_mth, v_idx, v_slc, v_rev, v_isi, v_lrg1, v_lrg2, evEs, evIfs, evIt, evPar, bind_ok, asB, dOf, dsOf, pureD, ofD, ofB, isNon, exitF, exitV, startE, List.length_cons, List.length_nil, List.map_cons, List.map_nil, List.cons_append, List.nil_append, List.append_nil, List.replicate, List.getElem?_cons_zero, List.getElem?_cons_succ, List.take_length, Option.map_some, Option.map_none, if_true, if_false, Bool.false_eq_true, Bool.not_true, Bool.not_false, List.any_cons, List.any_nil, Bool.or_false, isTy, List.set_cons_zero, List.set_cons_succ, setTg, wipeE, tgSlots, seqItems, biD, bopD, cmpD, List.zip_cons_cons, List.zip_nil_left, List.zip_nil_right, List.foldl_cons, List.foldl_nil, if_neg, Nat.reduceAdd, Nat.reduceSub, reduceIte, g_FAR, c_is_number (by omega : 1 ≤ n), b1]⟩
    · exact ⟨_, rfl, by simp [evSs, evS, v_var, v_int, v_bl, v_non, v_str, v_glb, v_tup, v_lst, v_bop, v_neg, v_cmp, v_chn, v_isN, v_notN, v_land, v_lor, v_lnot, v_ite, v_call, v_bi, v_mth, v_idx, v_slc, v_rev, v_isi, v_lrg1, v_lrg2, evEs, evIfs, evIt, evPar, bind_ok, asB, dOf, dsOf, pureD, ofD, ofB, isNon, exitF, exitV, startE, List.length_cons, List.length_nil, List.map_cons, List.map_nil, List.cons_append, List.nil_append, List.append_nil, List.replicate, List.getElem?_cons_zero, List.getElem?_cons_succ, List.take_length, Option.map_some, Option.map_none, if_true, if_false, Bool.false_eq_true, Bool.not_true, Bool.not_false, List.any_cons, List.any_nil, Bool.or_false, isTy, List.set_cons_zero, List.set_cons_succ, setTg, wipeE, tgSlots, seqItems, biD, bopD, cmpD, List.zip_cons_cons, List.zip_nil_left, List.zip_nil_right, List.foldl_cons, List.foldl_nil, if_neg, Nat.reduceAdd, Nat.reduceSub, reduceIte, g_FAR, c_is_number (by omega : 1 ≤ n), b2]⟩
  have q1 : evE (Cn n) (Gc csts) q_is_box_1 [some (.d (.tuple [.int x, .int y, .int w, .int h])), none] m = .ok (.d (.list [.bool true, .bool true])) m := by
    refine (comp_map (items := [.int w, .int h]) (fun _ => .bool true) (by simp [evSs, evS, v_var, v_int, v_bl, v_non, v_str, v_glb, v_tup, v_lst, v_bop, v_neg, v_cmp, v_chn, v_isN, v_notN, v_land, v_lor, v_lnot, v_ite, v_call, v_bi, v_mth, v_idx, v_slc, v_rev, v_isi, v_lrg1, v_lrg2, evEs, evIfs, evIt, evPar, bind_ok, asB, dOf, dsOf, pureD, ofD, ofB, isNon, exitF, exitV, startE, List.length_cons, List.length_nil, List.map_cons, List.map_nil, List.cons_append, List.nil_append, List.append_nil, List.replicate, List.getElem?_cons_zero, List.getElem?_cons_succ, List.take_length, Option.map_some, Option.map_none, if_true, if_false, Bool.false_eq_true, Bool.not_true, Bool.not_false, List.any_cons, List.any_nil, Bool.or_false, isTy, List.set_cons_zero, List.set_cons_succ, setTg, wipeE, tgSlots, seqItems, biD, bopD, cmpD, List.zip_cons_cons, List.zip_nil_left, List.zip_nil_right, List.foldl_cons, List.foldl_nil, if_neg, Nat.reduceAdd, Nat.reduceSub, reduceIte, slcD, cut, HT.sIx]) (szl (by simp)) fun z hz acc => ?_)
    rcases (by simpa using hz : z = .int w ∨ z = .int h) with rfl | rfl
    · exact ⟨_, rfl, by simp [evSs, evS, v_var, v_int, v_bl, v_non, v_str, v_glb, v_tup, v_lst, v_bop, v_neg, v_cmp, v_chn, v_isN, v_notN, v_land, v_lor, v_lnot, v_ite, v_call, v_bi, v_mth, v_idx, v_slc, v_rev, v_isi, v_lrg1, v_lrg2, evEs, evIfs, evIt, evPar, bind_ok, asB, dOf, dsOf, pureD, ofD, ofB, isNon, exitF, exitV, startE, List.length_cons, List.length_nil, List.map_cons, List.map_nil, List.cons_append, List.nil_append, List.append_nil, List.replicate, List.getElem?_cons_zero, List.getElem?_cons_succ, List.take_length, Option.map_some, Option.map_none, if_true, if_false, Bool.false_eq_true, Bool.not_true, Bool.not_false, List.any_cons, List.any_nil, Bool.or_false, isTy, List.set_cons_zero, List.set_cons_succ, setTg, wipeE, tgSlots, seqItems, biD, bopD, cmpD, List.zip_cons_cons, List.zip_nil_left, List.zip_nil_right, List.foldl_cons, List.foldl_nil, if_neg, Nat.reduceAdd, Nat.reduceSub, reduceIte, g_FAR, c_is_number (by omega : 1 ≤ n), b3]⟩
    · exact ⟨_, rfl, by simp [evSs, evS, v_var, v_int, v_bl, v_non, v_str, v_glb, v_tup, v_lst, v_bop, v_neg, v_cmp, v_chn, v_isN, v_notN, v_land, v_lor, v_lnot, v_ite, v_call, v_bi, v_mth, v_idx, v_slc, v_rev, v_isi, v_lrg1, v_lrg2, evEs, evIfs, evIt, evPar, bind_ok, asB, dOf, dsOf, pureD, ofD, ofB, isNon, exitF, exitV, startE, List.length_cons, List.length_nil, List.map_cons, List.map_nil, List.cons_append, List.nil_append, List.append_nil, List.replicate, List.getElem?_cons_zero, List.getElem?_cons_succ, List.take_length, Option.map_some, Option.map_none, if_true, if_false, Bool.false_eq_true, Bool.not_true, Bool.not_false, List.any_cons, List.any_nil, Bool.or_false, isTy, List.set_cons_zero, List.set_cons_succ, setTg, wipeE, tgSlots, seqItems, biD, bopD, cmpD, List.zip_cons_cons, List.zip_nil_left, List.zip_nil_right, List.foldl_cons, List.foldl_nil, if_neg, Nat.reduceAdd, Nat.reduceSub, reduceIte, g_FAR, c_is_number (by omega : 1 ≤ n), b4]⟩
  simp [f_is_box, b_is_box, evSs, evS, v_var, v_int, v_bl, v_non, v_str, v_glb, v_tup, v_lst, v_bop, v_neg, v_cmp, v_chn, v_isN, v_notN, v_land, v_lor, v_lnot, v_ite, v_call, v_bi, v_mth, v_idx, v_slc, v_rev, v_isi, v_lrg1, v_lrg2, evEs, evIfs, evIt, evPar, bind_ok, asB, dOf, dsOf, pureD, ofD, ofB, isNon, exitF, exitV, startE, List.length_cons, List.length_nil, List.map_cons, List.map_nil, List.cons_append, List.nil_append, List.append_nil, List.replicate, List.getElem?_cons_zero, List.getElem?_cons_succ, List.take_length, Option.map_some, Option.map_none, if_true, if_false, Bool.false_eq_true, Bool.not_true, Bool.not_false, List.any_cons, List.any_nil, Bool.or_false, isTy, List.set_cons_zero, List.set_cons_succ, setTg, wipeE, tgSlots, seqItems, biD, bopD, cmpD, List.zip_cons_cons, List.zip_nil_left, List.zip_nil_right, List.foldl_cons, List.foldl_nil, if_neg, Nat.reduceAdd, Nat.reduceSub, reduceIte, q0, q1, lenD, cmpable, scalD, PyData.eqv, boolsOf]
/-- a pane of a flat plan -/
structure Pn where
  nm : Nat
  up : Option Int
  x : Int
  y : Int
  w : Int
  h : Int
  ms : List Str
def upD : Option Int → D
  | none => .none
  | some i => .int i
def Pn.box (p : Pn) : D := .tuple [.int p.x, .int p.y, .int p.w, .int p.h]
def Pn.d (p : Pn) : D := .tuple [.int p.nm, upD p.up, p.box, .int 0, .tuple (p.ms.map .str), .tuple []]
def planD (L : List Pn) : D := .tuple (L.map Pn.d)
theorem c_rises1 {n : Nat} (hn : 1 ≤ n) (m : Store) (l : List D) (hl : l.length ≤ 1) (b : Bool) : Cn n 7 [.d (if b then .tuple l else .list l)] m = .ok (.d (.bool true)) m := by
  obtain ⟨n, rfl⟩ := up1 hn
  rw [call_def (fn := f_rises) rfl rfl]
  have e0 : intRange 0 ((l.length : Int) - 1) = [] := by
    unfold intRange
    have : ((l.length : Int) - 1 - 0).toNat = 0 := by omega
    rw [this]; rfl
  have i0 : inRange ((l.length : Int) - 1) = true := by unfold inRange; simp; omega
  have i1 : ((l.length : Int) - 1 ≤ sizeLine) := by rw [sizeLine_eq]; omega
  have q0 : evE (Cn n) (Gc csts) q_rises_0 [some (.d (if b then .tuple l else .list l)), none] m = .ok (.d (.list [])) m := by
    refine (comp_map (items := []) (fun _ => .bool true) ?_ (szl (by simp)) fun z hz acc => ?_)
    · cases b <;> simp [evSs, evS, v_var, v_int, v_bl, v_non, v_str, v_glb, v_tup, v_lst, v_bop, v_neg, v_cmp, v_chn, v_isN, v_notN, v_land, v_lor, v_lnot, v_ite, v_call, v_bi, v_mth, v_idx, v_slc, v_rev, v_isi, v_lrg1, v_lrg2, evEs, evIfs, evIt, evPar, bind_ok, asB, dOf, dsOf, pureD, ofD, ofB, isNon, exitF, exitV, startE, List.length_cons, List.length_nil, List.map_cons, List.map_nil, List.cons_append, List.nil_append, List.append_nil, List.replicate, List.getElem?_cons_zero, List.getElem?_cons_succ, List.take_length, Option.map_some, Option.map_none, if_true, if_false, Bool.false_eq_true, Bool.not_true, Bool.not_false, List.any_cons, List.any_nil, Bool.or_false, isTy, List.set_cons_zero, List.set_cons_succ, setTg, wipeE, tgSlots, seqItems, biD, bopD, cmpD, List.zip_cons_cons, List.zip_nil_left, List.zip_nil_right, List.foldl_cons, List.foldl_nil, if_neg, Nat.reduceAdd, Nat.reduceSub, reduceIte, lenD, i0, i1, e0]
    · simp at hz
  simp [f_rises, b_rises, evSs, evS, v_var, v_int, v_bl, v_non, v_str, v_glb, v_tup, v_lst, v_bop, v_neg, v_cmp, v_chn, v_isN, v_notN, v_land, v_lor, v_lnot, v_ite, v_call, v_bi, v_mth, v_idx, v_slc, v_rev, v_isi, v_lrg1, v_lrg2, evEs, evIfs, evIt, evPar, bind_ok, asB, dOf, dsOf, pureD, ofD, ofB, isNon, exitF, exitV, startE, List.length_cons, List.length_nil, List.map_cons, List.map_nil, List.cons_append, List.nil_append, List.append_nil, List.replicate, List.getElem?_cons_zero, List.getElem?_cons_succ, List.take_length, Option.map_some, Option.map_none, if_true, if_false, Bool.false_eq_true, Bool.not_true, Bool.not_false, List.any_cons, List.any_nil, Bool.or_false, isTy, List.set_cons_zero, List.set_cons_succ, setTg, wipeE, tgSlots, seqItems, biD, bopD, cmpD, List.zip_cons_cons, List.zip_nil_left, List.zip_nil_right, List.foldl_cons, List.foldl_nil, if_neg, Nat.reduceAdd, Nat.reduceSub, reduceIte, q0, boolsOf]
theorem lt_ints {a b : Int} : ltD (.int a) (.int b) = some (decide (a < b)) := rfl
theorem range_get {k : Nat} {z : D} {j : Int} (hz : z ∈ intRange 0 j) (hj : j = (k : Int)) : ∃ i : Nat, i < k ∧ z = .int i := by
  unfold intRange at hz
  obtain ⟨i, h1, rfl⟩ := List.mem_map.mp hz
  rw [List.mem_range] at h1
  exact ⟨i, by omega, by simp⟩
theorem atI_nat {α : Type} {l : List α} {i : Nat} {a : α} (h : l[i]? = some a) : L2.atI l (i : Int) = some a := by
  have hl := (List.getElem?_eq_some_iff.mp h).1
  unfold L2.atI L2.ixN
  rw [if_pos (by omega), if_pos (by omega)]
  simpa using h
theorem c_rises {n : Nat} (hn : 1 ≤ n) (m : Store) (l : List Int) (hl : l.length ≤ 100) (hp : ∀ i : Nat, ∀ a b, l[i]? = some a → l[i + 1]? = some b → a < b) : Cn n 7 [.d (.list (l.map .int))] m = .ok (.d (.bool true)) m := by
  by_cases h1 : l.length ≤ 1
  · exact c_rises1 hn m (l.map .int) (by simpa using h1) false
  obtain ⟨n, rfl⟩ := up1 hn
  rw [call_def (fn := f_rises) rfl rfl]
  have i0 : inRange ((l.length : Int) - 1) = true := by unfold inRange; simp; omega
  have i1 : ((l.length : Int) - 1 ≤ sizeLine) := by rw [sizeLine_eq]; omega
  have ek : ((l.length : Int) - 1) = ((l.length - 1 : Nat) : Int) := by omega
  have q0 : evE (Cn n) (Gc csts) q_rises_0 [some (.d (.list (l.map .int))), none] m = .ok (.d (.list ((intRange 0 ((l.length : Int) - 1)).map fun _ => .bool true))) m := by
    refine (comp_map (items := intRange 0 ((l.length : Int) - 1)) (fun _ => .bool true) ?_ (szl ?_) fun z hz acc => ?_)
    · simp [evSs, evS, v_var, v_int, v_bl, v_non, v_str, v_glb, v_tup, v_lst, v_bop, v_neg, v_cmp, v_chn, v_isN, v_notN, v_land, v_lor, v_lnot, v_ite, v_call, v_bi, v_mth, v_idx, v_slc, v_rev, v_isi, v_lrg1, v_lrg2, evEs, evIfs, evIt, evPar, bind_ok, asB, dOf, dsOf, pureD, ofD, ofB, isNon, exitF, exitV, startE, List.length_cons, List.length_nil, List.map_cons, List.map_nil, List.cons_append, List.nil_append, List.append_nil, List.replicate, List.getElem?_cons_zero, List.getElem?_cons_succ, List.take_length, Option.map_some, Option.map_none, if_true, if_false, Bool.false_eq_true, Bool.not_true, Bool.not_false, List.any_cons, List.any_nil, Bool.or_false, isTy, List.set_cons_zero, List.set_cons_succ, setTg, wipeE, tgSlots, seqItems, biD, bopD, cmpD, List.zip_cons_cons, List.zip_nil_left, List.zip_nil_right, List.foldl_cons, List.foldl_nil, if_neg, Nat.reduceAdd, Nat.reduceSub, reduceIte, lenD, i0, i1]
    · simp [intRange]; omega
    · obtain ⟨i, hi, rfl⟩ := range_get hz ek
      have ha : l[i]? = some l[i] := List.getElem?_eq_getElem (by omega)
      have hb : l[i + 1]? = some l[i + 1] := List.getElem?_eq_getElem (by omega)
      have g1 : L2.atI (l.map PyData.int) (i : Int) = some (.int l[i]) := atI_nat (by rw [List.getElem?_map, ha]; rfl)
      have g2 : L2.atI (l.map PyData.int) ((i : Int) + 1) = some (.int l[i + 1]) := by
        have := atI_nat (l := l.map PyData.int) (i := i + 1) (a := .int l[i + 1]) (by rw [List.getElem?_map, hb]; rfl)
        simpa using this
      exact ⟨_, rfl, by simp [evSs, evS, v_var, v_int, v_bl, v_non, v_str, v_glb, v_tup, v_lst, v_bop, v_neg, v_cmp, v_chn, v_isN, v_notN, v_land, v_lor, v_lnot, v_ite, v_call, v_bi, v_mth, v_idx, v_slc, v_rev, v_isi, v_lrg1, v_lrg2, evEs, evIfs, evIt, evPar, bind_ok, asB, dOf, dsOf, pureD, ofD, ofB, isNon, exitF, exitV, startE, List.length_cons, List.length_nil, List.map_cons, List.map_nil, List.cons_append, List.nil_append, List.append_nil, List.replicate, List.getElem?_cons_zero, List.getElem?_cons_succ, List.take_length, Option.map_some, Option.map_none, if_true, if_false, Bool.false_eq_true, Bool.not_true, Bool.not_false, List.any_cons, List.any_nil, Bool.or_false, isTy, List.set_cons_zero, List.set_cons_succ, setTg, wipeE, tgSlots, seqItems, biD, bopD, cmpD, List.zip_cons_cons, List.zip_nil_left, List.zip_nil_right, List.foldl_cons, List.foldl_nil, if_neg, Nat.reduceAdd, Nat.reduceSub, reduceIte, idxD, g1, g2, lt_ints, hp i _ _ ha hb]⟩
  have all1 : biD .all [.list ((intRange 0 ((l.length : Int) - 1)).map fun _ => PyData.bool true)] = some (.bool true) := by
    rw [all_bools (k := intRange 0 ((l.length : Int) - 1)) (p := fun _ => true) rfl]; simp
  simp only [f_rises, b_rises, startE, evSs, evS, v_bi, evEs, bind_ok, q0, dsOf, dOf, List.map_cons, List.map_nil, List.length_cons, List.length_nil, List.replicate, List.cons_append, List.nil_append, Nat.reduceAdd, Nat.reduceSub]
  rw [all1]
  simp [ofD, exitF, exitV]
theorem in_marks {s : Str} (h : s = "stop") : cmpD .inn (.str s) (.tuple [.str "asleep", .str "hidden", .str "hold", .str "one", .str "sheet", .str "stop"]) = some true := by
  subst h; kernel_rfl
theorem c_is_mark {n : Nat} (hn : 1 ≤ n) (m : Store) : Cn n 5 [.d (.str "stop")] m = .ok (.d (.bool true)) m := by
  obtain ⟨n, rfl⟩ := up1 hn
  rw [call_def (fn := f_is_mark) rfl rfl]
  have := in_marks (s := "stop") rfl
  simp only [f_is_mark, b_is_mark, startE, evSs, evS, v_land, v_isi, v_var, v_cmp, v_glb, g_MARKS, ofD, bind_ok, List.map_cons, List.map_nil, List.length_cons, List.length_nil, List.replicate, List.cons_append, List.nil_append, Nat.reduceAdd, Nat.reduceSub, List.getElem?_cons_zero, dOf, isTy, List.any_cons, List.any_nil, Bool.or_false, asB, if_true, this, ofB, exitF, exitV, List.take_length]
/-- no marks, or stop alone -/
def okMk (l : List Str) : Prop := l = [] ∨ l = [("stop" : Str)]
theorem c_are_marks {n : Nat} (hn : 2 ≤ n) (m : Store) (l : List Str) (hl : okMk l) : Cn n 8 [.d (.tuple (l.map .str))] m = .ok (.d (.bool true)) m := by
  obtain ⟨n, rfl⟩ := up1 (by omega : 1 ≤ n)
  rw [call_def (fn := f_are_marks) rfl rfl]
  have hlen : (l.map PyData.str).length ≤ 1 := by rcases hl with rfl | rfl <;> simp
  have q0 : evE (Cn n) (Gc csts) q_are_marks_0 [some (.d (.tuple (l.map .str))), none] m = .ok (.d (.list ((l.map PyData.str).map fun _ => .bool true))) m := by
    refine (comp_map (items := l.map .str) (fun _ => .bool true) (by simp [evSs, evS, v_var, v_int, v_bl, v_non, v_str, v_glb, v_tup, v_lst, v_bop, v_neg, v_cmp, v_chn, v_isN, v_notN, v_land, v_lor, v_lnot, v_ite, v_call, v_bi, v_mth, v_idx, v_slc, v_rev, v_isi, v_lrg1, v_lrg2, evEs, evIfs, evIt, evPar, bind_ok, asB, dOf, dsOf, pureD, ofD, ofB, isNon, exitF, exitV, startE, List.length_cons, List.length_nil, List.map_cons, List.map_nil, List.cons_append, List.nil_append, List.append_nil, List.replicate, List.getElem?_cons_zero, List.getElem?_cons_succ, List.take_length, Option.map_some, Option.map_none, if_true, if_false, Bool.false_eq_true, Bool.not_true, Bool.not_false, List.any_cons, List.any_nil, Bool.or_false, isTy, List.set_cons_zero, List.set_cons_succ, setTg, wipeE, tgSlots, seqItems, biD, bopD, cmpD, List.zip_cons_cons, List.zip_nil_left, List.zip_nil_right, List.foldl_cons, List.foldl_nil, if_neg, Nat.reduceAdd, Nat.reduceSub, reduceIte]) (szl (by omega)) fun z hz acc => ?_)
    rcases hl with rfl | rfl
    · simp at hz
    · have : z = .str "stop" := by simpa using hz
      subst this
      exact ⟨_, rfl, by simp [evSs, evS, v_var, v_int, v_bl, v_non, v_str, v_glb, v_tup, v_lst, v_bop, v_neg, v_cmp, v_chn, v_isN, v_notN, v_land, v_lor, v_lnot, v_ite, v_call, v_bi, v_mth, v_idx, v_slc, v_rev, v_isi, v_lrg1, v_lrg2, evEs, evIfs, evIt, evPar, bind_ok, asB, dOf, dsOf, pureD, ofD, ofB, isNon, exitF, exitV, startE, List.length_cons, List.length_nil, List.map_cons, List.map_nil, List.cons_append, List.nil_append, List.append_nil, List.replicate, List.getElem?_cons_zero, List.getElem?_cons_succ, List.take_length, Option.map_some, Option.map_none, if_true, if_false, Bool.false_eq_true, Bool.not_true, Bool.not_false, List.any_cons, List.any_nil, Bool.or_false, isTy, List.set_cons_zero, List.set_cons_succ, setTg, wipeE, tgSlots, seqItems, biD, bopD, cmpD, List.zip_cons_cons, List.zip_nil_left, List.zip_nil_right, List.foldl_cons, List.foldl_nil, if_neg, Nat.reduceAdd, Nat.reduceSub, reduceIte, c_is_mark (by omega : 1 ≤ n)]⟩
  have all1 : biD .all [.list ((l.map PyData.str).map fun _ => PyData.bool true)] = some (.bool true) := by
    rw [all_bools (k := l.map PyData.str) (p := fun _ => true) rfl]; simp
  have r := c_rises1 (by omega : 1 ≤ n) m (l.map .str) hlen true
  simp only [if_true] at r
  simp only [f_are_marks, b_are_marks, startE, evSs, evS, v_land, v_isi, v_var, v_bi, v_call, evEs, q0, ofD, bind_ok, List.map_cons, List.map_nil, List.length_cons, List.length_nil, List.replicate, List.cons_append, List.nil_append, Nat.reduceAdd, Nat.reduceSub, List.getElem?_cons_zero, dOf, dsOf, isTy, List.any_cons, List.any_nil, Bool.or_false, asB, if_true, all1, r, ofB, exitF, exitV, List.take_length]
theorem c_are_keys {n : Nat} (hn : 2 ≤ n) (m : Store) : Cn n 10 [.d (.tuple [])] m = .ok (.d (.bool true)) m := by
  obtain ⟨n, rfl⟩ := up1 (by omega : 1 ≤ n)
  rw [call_def (fn := f_are_keys) rfl rfl]
  have q0 : evE (Cn n) (Gc csts) q_are_keys_0 [some (.d (.tuple [])), none] m = .ok (.d (.list [])) m := (comp_map (items := []) (fun _ => .bool true) (by simp [evSs, evS, v_var, v_int, v_bl, v_non, v_str, v_glb, v_tup, v_lst, v_bop, v_neg, v_cmp, v_chn, v_isN, v_notN, v_land, v_lor, v_lnot, v_ite, v_call, v_bi, v_mth, v_idx, v_slc, v_rev, v_isi, v_lrg1, v_lrg2, evEs, evIfs, evIt, evPar, bind_ok, asB, dOf, dsOf, pureD, ofD, ofB, isNon, exitF, exitV, startE, List.length_cons, List.length_nil, List.map_cons, List.map_nil, List.cons_append, List.nil_append, List.append_nil, List.replicate, List.getElem?_cons_zero, List.getElem?_cons_succ, List.take_length, Option.map_some, Option.map_none, if_true, if_false, Bool.false_eq_true, Bool.not_true, Bool.not_false, List.any_cons, List.any_nil, Bool.or_false, isTy, List.set_cons_zero, List.set_cons_succ, setTg, wipeE, tgSlots, seqItems, biD, bopD, cmpD, List.zip_cons_cons, List.zip_nil_left, List.zip_nil_right, List.foldl_cons, List.foldl_nil, if_neg, Nat.reduceAdd, Nat.reduceSub, reduceIte]) (szl (by simp)) fun z hz acc => by simp at hz)
  have q1 : evE (Cn n) (Gc csts) q_are_keys_1 [some (.d (.tuple [])), none] m = .ok (.d (.list [])) m := (comp_map (items := []) (fun _ => .bool true) (by simp [evSs, evS, v_var, v_int, v_bl, v_non, v_str, v_glb, v_tup, v_lst, v_bop, v_neg, v_cmp, v_chn, v_isN, v_notN, v_land, v_lor, v_lnot, v_ite, v_call, v_bi, v_mth, v_idx, v_slc, v_rev, v_isi, v_lrg1, v_lrg2, evEs, evIfs, evIt, evPar, bind_ok, asB, dOf, dsOf, pureD, ofD, ofB, isNon, exitF, exitV, startE, List.length_cons, List.length_nil, List.map_cons, List.map_nil, List.cons_append, List.nil_append, List.append_nil, List.replicate, List.getElem?_cons_zero, List.getElem?_cons_succ, List.take_length, Option.map_some, Option.map_none, if_true, if_false, Bool.false_eq_true, Bool.not_true, Bool.not_false, List.any_cons, List.any_nil, Bool.or_false, isTy, List.set_cons_zero, List.set_cons_succ, setTg, wipeE, tgSlots, seqItems, biD, bopD, cmpD, List.zip_cons_cons, List.zip_nil_left, List.zip_nil_right, List.foldl_cons, List.foldl_nil, if_neg, Nat.reduceAdd, Nat.reduceSub, reduceIte]) (szl (by simp)) fun z hz acc => by simp at hz)
  have r := c_rises1 (by omega : 1 ≤ n) m [] (by simp) false
  simp only [Bool.false_eq_true, if_false] at r
  simp [f_are_keys, b_are_keys, evSs, evS, v_var, v_int, v_bl, v_non, v_str, v_glb, v_tup, v_lst, v_bop, v_neg, v_cmp, v_chn, v_isN, v_notN, v_land, v_lor, v_lnot, v_ite, v_call, v_bi, v_mth, v_idx, v_slc, v_rev, v_isi, v_lrg1, v_lrg2, evEs, evIfs, evIt, evPar, bind_ok, asB, dOf, dsOf, pureD, ofD, ofB, isNon, exitF, exitV, startE, List.length_cons, List.length_nil, List.map_cons, List.map_nil, List.cons_append, List.nil_append, List.append_nil, List.replicate, List.getElem?_cons_zero, List.getElem?_cons_succ, List.take_length, Option.map_some, Option.map_none, if_true, if_false, Bool.false_eq_true, Bool.not_true, Bool.not_false, List.any_cons, List.any_nil, Bool.or_false, isTy, List.set_cons_zero, List.set_cons_succ, setTg, wipeE, tgSlots, seqItems, biD, bopD, cmpD, List.zip_cons_cons, List.zip_nil_left, List.zip_nil_right, List.foldl_cons, List.foldl_nil, if_neg, Nat.reduceAdd, Nat.reduceSub, reduceIte, q0, q1, g_MK, lenD, boolsOf, r]
/-- a pane that is well made -/
structure Pn.Ok (p : Pn) : Prop where
  nm : p.nm ≤ 1000
  up : p.up = none ∨ p.up = some 0
  x : -1000000 ≤ p.x ∧ p.x ≤ 1000000
  y : -1000000 ≤ p.y ∧ p.y ≤ 1000000
  w : 1 ≤ p.w ∧ p.w ≤ 1000000
  h : 1 ≤ p.h ∧ p.h ≤ 1000000
  ms : okMk p.ms
theorem c_is_pane {n : Nat} (hn : 3 ≤ n) (m : Store) (p : Pn) (k : p.Ok) : Cn n 11 [.d p.d] m = .ok (.d (.bool true)) m := by
  obtain ⟨n, rfl⟩ := up1 (by omega : 1 ≤ n)
  rw [call_def (fn := f_is_pane) rfl rfl]
  have h1 := c_is_name (by omega : 2 ≤ n) m p.nm
  have n1 : (decide ((0 : Int) ≤ (p.nm : Int)) && decide ((p.nm : Int) ≤ 1000000)) = true := by
    have := k.nm
    simp; omega
  rw [n1] at h1
  have h2 := c_is_box (by omega : 2 ≤ n) m p.x p.y p.w p.h k.x k.y k.w k.h
  have h3 := c_are_marks (by omega : 2 ≤ n) m p.ms k.ms
  have h4 := c_are_keys (by omega : 2 ≤ n) m
  have h5 := c_is_number (by omega : 1 ≤ n) m 0 (-1000000) 1000000
  have h6 := c_is_name (by omega : 2 ≤ n) m 0
  rcases k.up with hu | hu <;> simp [f_is_pane, b_is_pane, evSs, evS, v_var, v_int, v_bl, v_non, v_str, v_glb, v_tup, v_lst, v_bop, v_neg, v_cmp, v_chn, v_isN, v_notN, v_land, v_lor, v_lnot, v_ite, v_call, v_bi, v_mth, v_idx, v_slc, v_rev, v_isi, v_lrg1, v_lrg2, evEs, evIfs, evIt, evPar, bind_ok, asB, dOf, dsOf, pureD, ofD, ofB, isNon, exitF, exitV, startE, List.length_cons, List.length_nil, List.map_cons, List.map_nil, List.cons_append, List.nil_append, List.append_nil, List.replicate, List.getElem?_cons_zero, List.getElem?_cons_succ, List.take_length, Option.map_some, Option.map_none, if_true, if_false, Bool.false_eq_true, Bool.not_true, Bool.not_false, List.any_cons, List.any_nil, Bool.or_false, isTy, List.set_cons_zero, List.set_cons_succ, setTg, wipeE, tgSlots, seqItems, biD, bopD, cmpD, List.zip_cons_cons, List.zip_nil_left, List.zip_nil_right, List.foldl_cons, List.foldl_nil, if_neg, Nat.reduceAdd, Nat.reduceSub, reduceIte, Pn.d, Pn.box, hu, upD, lenD, cmpable, scalD, PyData.eqv, h1, h2, h3, h4, h5, h6, g_FAR]
end k19
end Kp
end

section
set_option Elab.async false
set_option linter.all false
set_option maxRecDepth 100000
set_option maxHeartbeats 2000077
namespace Kp
namespace k19
open PySem
def g0 : Pn := ⟨0, none, 0, 0, 60, 60, []⟩
/-- a ground with stops side by side in it -/
structure Flat (ps : List Pn) : Prop where
  len : 1 ≤ ps.length ∧ ps.length ≤ 30
  nm : ∀ (i : Nat) p, (g0 :: ps)[i]? = some p → p.nm = i
  ok : ∀ p ∈ ps, p.Ok ∧ p.up = some 0 ∧ p.ms = [("stop" : Str)]
def pl (ps : List Pn) : D := .tuple ((g0 :: ps).map Pn.d)
theorem stop_ok : PyData.strOk (Str.ofString "stop") = true := by decide +kernel
theorem pn_can (p : Pn) (h : p.ms = [] ∨ p.ms = [("stop" : Str)]) (hu : p.up = none ∨ p.up = some 0) : p.d.canLay0 = true ∧ p.d.depth ≤ 5 := by
  obtain ⟨nm, up, x, y, w, h', ms⟩ := p
  rcases h with h | h <;> rcases hu with hu | hu <;> (simp only at h hu; subst h hu; simp [Pn.d, Pn.box, upD, PyData.canLay0, PyData.canLayAll0, PyData.depth, PyData.depthAll, stop_ok])
theorem c_is_ground {n : Nat} (hn : 1 ≤ n) (m : Store) : Cn n 12 [.d g0.d] m = .ok (.d (.bool true)) m := by
  obtain ⟨n, rfl⟩ := up1 hn
  rw [call_def (fn := f_is_ground) rfl rfl]
  have q0 : ∀ env, env[6]? = some (some (.d (.tuple []))) → evE (Cn n) (Gc csts) q_is_ground_0 env m = .ok (.d (.list [])) m := fun env he => (comp_map (items := []) (fun _ => .bool true) (by simp [evSs, evS, v_var, v_int, v_bl, v_non, v_str, v_glb, v_tup, v_lst, v_bop, v_neg, v_cmp, v_chn, v_isN, v_notN, v_land, v_lor, v_lnot, v_ite, v_call, v_bi, v_mth, v_idx, v_slc, v_rev, v_isi, v_lrg1, v_lrg2, evEs, evIfs, evIt, evPar, bind_ok, asB, dOf, dsOf, pureD, ofD, ofB, isNon, exitF, exitV, startE, List.length_cons, List.length_nil, List.map_cons, List.map_nil, List.cons_append, List.nil_append, List.append_nil, List.replicate, List.getElem?_cons_zero, List.getElem?_cons_succ, List.take_length, Option.map_some, Option.map_none, if_true, if_false, Bool.false_eq_true, Bool.not_true, Bool.not_false, List.any_cons, List.any_nil, Bool.or_false, isTy, List.set_cons_zero, List.set_cons_succ, setTg, wipeE, tgSlots, seqItems, biD, bopD, cmpD, List.zip_cons_cons, List.zip_nil_left, List.zip_nil_right, List.foldl_cons, List.foldl_nil, if_neg, Nat.reduceAdd, Nat.reduceSub, reduceIte, he]) (szl (by simp)) fun z hz acc => by simp at hz)
  have s1 : cmpD .ne (.tuple [.int 0, .int 0]) (.tuple [.int 0, .int 0]) = some false := by kernel_rfl
  have s2 : cmpD .ne (.tuple []) (.tuple []) = some false := by kernel_rfl
  have s3 : cmpD .nin (.tuple [.str "shut"]) (.list []) = some true := by kernel_rfl
  have s4 : cmpD .ne (.int 0) (.int 0) = some false := by kernel_rfl
  simp [f_is_ground, b_is_ground, g0, Pn.d, Pn.box, upD, evSs, evS, v_var, v_int, v_bl, v_non, v_str, v_glb, v_tup, v_lst, v_bop, v_neg, v_cmp, v_chn, v_isN, v_notN, v_land, v_lor, v_lnot, v_ite, v_call, v_bi, v_mth, v_idx, v_slc, v_rev, v_isi, v_lrg1, v_lrg2, evEs, evIfs, evIt, evPar, bind_ok, asB, dOf, dsOf, pureD, ofD, ofB, isNon, exitF, exitV, startE, List.length_cons, List.length_nil, List.map_cons, List.map_nil, List.cons_append, List.nil_append, List.append_nil, List.replicate, List.getElem?_cons_zero, List.getElem?_cons_succ, List.take_length, Option.map_some, Option.map_none, if_true, if_false, Bool.false_eq_true, Bool.not_true, Bool.not_false, List.any_cons, List.any_nil, Bool.or_false, isTy, List.set_cons_zero, List.set_cons_succ, setTg, wipeE, tgSlots, seqItems, biD, bopD, List.zip_cons_cons, List.zip_nil_left, List.zip_nil_right, List.foldl_cons, List.foldl_nil, if_neg, Nat.reduceAdd, Nat.reduceSub, reduceIte, slcD, cut, HT.sIx, s1, s2, s3, s4, q0]
def PS (ps : List Pn) : List D := ps.map Pn.d
theorem Flat.can {ps : List Pn} (F : Flat ps) : ∀ d ∈ PS ps, d.canLay0 = true ∧ d.depth ≤ 5 := fun d hd => by
  obtain ⟨p, hp, rfl⟩ := List.mem_map.mp hd
  obtain ⟨_, h2, h3⟩ := F.ok p hp
  exact pn_can p (.inr h3) (.inr h2)
theorem Flat.ne {ps : List Pn} (F : Flat ps) : PS ps ≠ [] := fun h => by
  have := F.len.1
  have : (PS ps).length = 0 := by rw [h]; rfl
  rw [PS, List.length_map] at this
  omega
theorem PS_get {ps : List Pn} (F : Flat ps) {j : Nat} {x : D} (h : (PS ps)[j]? = some x) : ∃ p ∈ ps, x = p.d ∧ p.nm = j + 1 ∧ p.up = some 0 ∧ p.ms = [("stop" : Str)] := by
  rw [PS, List.getElem?_map, Option.map_eq_some_iff] at h
  obtain ⟨p, h1, rfl⟩ := h
  have hm := List.mem_of_getElem? h1
  exact ⟨p, hm, rfl, F.nm (j + 1) p (by simpa using h1), (F.ok p hm).2.1, (F.ok p hm).2.2⟩
theorem pd_ix (p : Pn) : idxD p.d (.int 0) = some (.int p.nm) ∧ idxD p.d (.int 1) = some (upD p.up) ∧ idxD p.d (.int 2) = some p.box ∧ idxD p.d (.int 3) = some (.int 0) ∧ idxD p.d (.int 4) = some (.tuple (p.ms.map .str)) := by
  refine ⟨?_, ?_, ?_, ?_, ?_⟩ <;> simp [Pn.d, idxD, L2.atI, L2.ixN]
theorem dOf_d (x : D) (m : Store) : dOf (.d x) m = some x := rfl
theorem dOf_dict {a : Nat} {m : Store} {kvs : List (Key × D)} (h : m[a]? = some (.dict kvs)) : dOf (.loc a) m = some (dictD kvs) := by simp [dOf, h]
theorem c_is_rooted {n : Nat} (hn : 1 ≤ n) (m : Store) {ps : List Pn} (F : Flat ps) : Cn n 13 [.d (pl ps)] m = .ok (.d (.bool true)) m := by
  obtain ⟨n, rfl⟩ := up1 hn
  rw [call_def (fn := f_is_rooted) rfl rfl]
  have lp : (PS ps).length = ps.length := by simp [PS]
  have l1 := F.len
  -- the loop over the panes
  have loop : ∀ a b, ∃ env' m', evS (Cn n) (Gc csts) l_is_rooted_0 [some (.d (pl ps)), some (.loc m.length), some (.d (.list (PS ps))), a, b] (m ++ [.dict [(.inl 0, .bool true)]]) = .ok (.next env') m' ∧
      ∃ a b kvs, env' = [some (.d (pl ps)), some (.loc m.length), some (.d (.list (PS ps))), a, b] ∧ m' = m ++ [.dict kvs] ∧ kvs.length ≤ 1 + (PS ps).length ∧ ∀ j : Nat, j ≤ (PS ps).length → (lookK kvs (.inl (j : Int))).isSome = true := by
    intro a b
    have st := for_ok (b := fun x env m => match setTg (.one 4) x env with
      | some env => evSs (Cn n) (Gc csts) [.ife (.cmp .inn (.idx (.var 4) (.int 1)) (.var 1)) [.sidx (.var 1) (.idx (.var 4) (.int 0)) (.bl true)] []] env m
      | none => .stuck) (fun i env m' => ∃ a b kvs, env = [some (.d (pl ps)), some (.loc m.length), some (.d (.list (PS ps))), a, b] ∧ m' = m ++ [.dict kvs] ∧ kvs.length ≤ 1 + i ∧ ∀ j : Nat, j ≤ i → (lookK kvs (.inl (j : Int))).isSome = true)
      (PS ps) 0 [some (.d (pl ps)), some (.loc m.length), some (.d (.list (PS ps))), a, b] (m ++ [.dict [(.inl 0, .bool true)]]) ⟨a, b, _, rfl, rfl, by simp, fun j hj => by
        have : j = 0 := by omega
        subst this
        rfl⟩ (fun j x env m' hx hI => ?_)
    · rw [Nat.zero_add] at st
      obtain ⟨env', m', e1, e2⟩ := st
      refine ⟨env', m', ?_, e2⟩
      simp only [l_is_rooted_0, s_for, evIt, v_var, List.getElem?_cons_zero, List.getElem?_cons_succ, bind_ok, seqItems]
      exact e1
    · rw [Nat.zero_add] at hI ⊢
      obtain ⟨a, b, kvs, rfl, rfl, h3, h4⟩ := hI
      obtain ⟨p, hp, rfl, hnm, hup, hms⟩ := PS_get F hx
      obtain ⟨i0, i1, i2, i3, i4⟩ := pd_ix p
      rw [hup] at i1
      have hj := (List.getElem?_eq_some_iff.mp hx).1
      have hk : cmpD .inn (upD (some 0)) (dictD kvs) = some true := by
        show inD (.int 0) (dictD kvs) = some true
        rw [in_dictI, show (lookK kvs (.inl 0)).isSome = true from h4 0 (Nat.zero_le _)]
      have hz : kvs.length < sizeLine := by rw [sizeLine_eq]; omega
      refine ⟨_, m ++ [.dict (putK kvs (.inl (p.nm : Int)) (.bool true))], ?_, a, some (.d p.d), _, rfl, rfl, Nat.le_trans put_len (by omega), fun q hq => ?_⟩
      · simp [evSs, evS, v_var, v_int, v_bl, v_non, v_str, v_glb, v_tup, v_lst, v_bop, v_neg, v_cmp, v_chn, v_isN, v_notN, v_land, v_lor, v_lnot, v_ite, v_call, v_bi, v_mth, v_idx, v_slc, v_rev, v_isi, v_lrg1, v_lrg2, evEs, evIfs, evIt, evPar, bind_ok, asB, dOf, dsOf, pureD, ofD, ofB, isNon, exitF, exitV, startE, List.length_cons, List.length_nil, List.map_cons, List.map_nil, List.cons_append, List.nil_append, List.append_nil, List.replicate, List.getElem?_cons_zero, List.getElem?_cons_succ, List.take_length, Option.map_some, Option.map_none, if_true, if_false, Bool.false_eq_true, Bool.not_true, Bool.not_false, List.any_cons, List.any_nil, Bool.or_false, isTy, List.set_cons_zero, List.set_cons_succ, setTg, wipeE, tgSlots, seqItems, biD, bopD, List.zip_cons_cons, List.zip_nil_left, List.zip_nil_right, List.foldl_cons, List.foldl_nil, if_neg, Nat.reduceAdd, Nat.reduceSub, reduceIte, dOf_d, i0, i1, dOf_dict (get_end (m := m) (o := .dict kvs)), hk, setIdx, toKey, hz, get_end, set_end]
      · rw [look_put]
        split
        · rfl
        · rename_i hne
          refine h4 q ?_
          by_cases e : q ≤ j
          · exact e
          · exfalso
            apply hne
            have : q = p.nm := by omega
            rw [this]
  have known : evS (Cn n) (Gc csts) (.setM 1 (.dic [.int 0, .bl true])) [some (.d (pl ps)), none, none, none, none] m = .ok (.next [some (.d (pl ps)), some (.loc m.length), none, none, none]) (m ++ [.dict [(.inl 0, .bool true)]]) := by
    have hd : (PyData.dict [(.int 0, .bool true)]) = dictD [(.inl 0, .bool true)] := rfl
    simp [evS, v_dic, evEs, v_int, v_bl, pairsUp, toKey, putK, get_end, thaw_d]
  have first : evS (Cn n) (Gc csts) (.set 2 (.bi .list [.slc (.var 0) true false (.int 1) .non])) [some (.d (pl ps)), some (.loc m.length), none, none, none] (m ++ [.dict [(.inl 0, .bool true)]]) = .ok (.next [some (.d (pl ps)), some (.loc m.length), some (.d (.list (PS ps))), none, none]) (m ++ [.dict [(.inl 0, .bool true)]]) := by
    have e : slcD (pl ps) (some 1) none = some (.tuple (PS ps)) := by simp [slcD, pl, cut1, PS]
    simp [evSs, evS, v_var, v_int, v_bl, v_non, v_str, v_glb, v_tup, v_lst, v_bop, v_neg, v_cmp, v_chn, v_isN, v_notN, v_land, v_lor, v_lnot, v_ite, v_call, v_bi, v_mth, v_idx, v_slc, v_rev, v_isi, v_lrg1, v_lrg2, evEs, evIfs, evIt, evPar, bind_ok, asB, dOf, dsOf, pureD, ofD, ofB, isNon, exitF, exitV, startE, List.length_cons, List.length_nil, List.map_cons, List.map_nil, List.cons_append, List.nil_append, List.append_nil, List.replicate, List.getElem?_cons_zero, List.getElem?_cons_succ, List.take_length, Option.map_some, Option.map_none, if_true, if_false, Bool.false_eq_true, Bool.not_true, Bool.not_false, List.any_cons, List.any_nil, Bool.or_false, isTy, List.set_cons_zero, List.set_cons_succ, setTg, wipeE, tgSlots, seqItems, biD, bopD, cmpD, List.zip_cons_cons, List.zip_nil_left, List.zip_nil_right, List.foldl_cons, List.foldl_nil, if_neg, Nat.reduceAdd, Nat.reduceSub, reduceIte, e, dOf_d]
  have wh := while_ok (c := fun env m => (evE (Cn n) (Gc csts) (.cmp .ne (.var 2) (.lst [])) env m).bind asB) (b := fun env m => evSs (Cn n) (Gc csts) [.set 3 q_is_rooted_0, .ife (.cmp .eq (.bi .len [.var 3]) (.bi .len [.var 2])) [.ret (.bl false)] [], l_is_rooted_0, .set 2 q_is_rooted_1] env m)
    (fun k env m' => (k = 1 ∧ env = [some (.d (pl ps)), some (.loc m.length), some (.d (.list (PS ps))), none, none] ∧ m' = m ++ [.dict [(.inl 0, .bool true)]]) ∨ (k = 0 ∧ ∃ a b kvs, env = [some (.d (pl ps)), some (.loc m.length), some (.d (.list [])), a, b] ∧ m' = m ++ [.dict kvs]))
    (fun k env m' hI => ?_) (fun env m' hI => ?_) 1 whileN [some (.d (pl ps)), some (.loc m.length), some (.d (.list (PS ps))), none, none] (m ++ [.dict [(.inl 0, .bool true)]]) (by decide) (.inl ⟨rfl, rfl, rfl⟩)
  · obtain ⟨env', m', e1, e2⟩ := wh
    rcases e2 with ⟨h, _⟩ | ⟨_, a, b, kvs, rfl, rfl⟩
    · cases h
    · have ew : evS (Cn n) (Gc csts) w_is_rooted_0 [some (.d (pl ps)), some (.loc m.length), some (.d (.list (PS ps))), none, none] (m ++ [.dict [(.inl 0, .bool true)]]) = .ok (.next [some (.d (pl ps)), some (.loc m.length), some (.d (.list [])), a, b]) (m ++ [.dict kvs]) := by
        simp only [w_is_rooted_0, s_whl]
        exact e1
      simp only [f_is_rooted, b_is_rooted, startE, List.map_cons, List.map_nil, List.length_cons, List.length_nil, List.replicate, List.cons_append, List.nil_append, Nat.reduceAdd, Nat.reduceSub, evSs, known, first, ew, bind_ok]
      simp [evS, v_bl, exitF, exitV]
  · rcases hI with ⟨hk, rfl, rfl⟩ | ⟨h, _⟩
    · have : k = 0 := by omega
      subst this
      refine ⟨by simp [evSs, evS, v_var, v_int, v_bl, v_non, v_str, v_glb, v_tup, v_lst, v_bop, v_neg, v_cmp, v_chn, v_isN, v_notN, v_land, v_lor, v_lnot, v_ite, v_call, v_bi, v_mth, v_idx, v_slc, v_rev, v_isi, v_lrg1, v_lrg2, evEs, evIfs, evIt, evPar, bind_ok, asB, dOf, dsOf, pureD, ofD, ofB, isNon, exitF, exitV, startE, List.length_cons, List.length_nil, List.map_cons, List.map_nil, List.cons_append, List.nil_append, List.append_nil, List.replicate, List.getElem?_cons_zero, List.getElem?_cons_succ, List.take_length, Option.map_some, Option.map_none, if_true, if_false, Bool.false_eq_true, Bool.not_true, Bool.not_false, List.any_cons, List.any_nil, Bool.or_false, isTy, List.set_cons_zero, List.set_cons_succ, setTg, wipeE, tgSlots, seqItems, biD, bopD, List.zip_cons_cons, List.zip_nil_left, List.zip_nil_right, List.foldl_cons, List.foldl_nil, if_neg, Nat.reduceAdd, Nat.reduceSub, reduceIte, dOf_d, ne_nil F.ne (by omega) F.can], ?_⟩
      have q0 : evE (Cn n) (Gc csts) q_is_rooted_0 [some (.d (pl ps)), some (.loc m.length), some (.d (.list (PS ps))), none, none] (m ++ [.dict [(.inl 0, .bool true)]]) = .ok (.d (.list [])) (m ++ [.dict [(.inl 0, .bool true)]]) := by
        have := comp_if (Φ := Cn n) (G := Gc csts) (env := [some (.d (pl ps)), some (.loc m.length), some (.d (.list (PS ps))), none, none]) (m := m ++ [.dict [(.inl 0, .bool true)]]) (elt := .var 4) (c := .cmp .nin (.idx (.var 4) (.int 1)) (.var 1)) (tg := .one 4) (it := .seq (.var 2)) (items := PS ps) (fun _ => false) id
          (by simp [evSs, evS, v_var, v_int, v_bl, v_non, v_str, v_glb, v_tup, v_lst, v_bop, v_neg, v_cmp, v_chn, v_isN, v_notN, v_land, v_lor, v_lnot, v_ite, v_call, v_bi, v_mth, v_idx, v_slc, v_rev, v_isi, v_lrg1, v_lrg2, evEs, evIfs, evIt, evPar, bind_ok, asB, dOf, dsOf, pureD, ofD, ofB, isNon, exitF, exitV, startE, List.length_cons, List.length_nil, List.map_cons, List.map_nil, List.cons_append, List.nil_append, List.append_nil, List.replicate, List.getElem?_cons_zero, List.getElem?_cons_succ, List.take_length, Option.map_some, Option.map_none, if_true, if_false, Bool.false_eq_true, Bool.not_true, Bool.not_false, List.any_cons, List.any_nil, Bool.or_false, isTy, List.set_cons_zero, List.set_cons_succ, setTg, wipeE, tgSlots, seqItems, biD, bopD, cmpD, List.zip_cons_cons, List.zip_nil_left, List.zip_nil_right, List.foldl_cons, List.foldl_nil, if_neg, Nat.reduceAdd, Nat.reduceSub, reduceIte]) (szl (by omega)) fun x hx acc => by
            obtain ⟨j, hj⟩ := List.mem_iff_getElem?.mp hx
            obtain ⟨p, hp, rfl, hnm, hup, hms⟩ := PS_get F hj
            obtain ⟨i0, i1, i2, i3, i4⟩ := pd_ix p
            rw [hup] at i1
            have hk : cmpD .nin (upD (some 0)) (dictD [(.inl 0, .bool true)]) = some false := by
              show (inD (.int 0) (dictD [(.inl 0, .bool true)])).map not = some false
              rw [in_dictI]; rfl
            exact ⟨_, rfl, by simp [evSs, evS, v_var, v_int, v_bl, v_non, v_str, v_glb, v_tup, v_lst, v_bop, v_neg, v_cmp, v_chn, v_isN, v_notN, v_land, v_lor, v_lnot, v_ite, v_call, v_bi, v_mth, v_idx, v_slc, v_rev, v_isi, v_lrg1, v_lrg2, evEs, evIfs, evIt, evPar, bind_ok, asB, dOf, dsOf, pureD, ofD, ofB, isNon, exitF, exitV, startE, List.length_cons, List.length_nil, List.map_cons, List.map_nil, List.cons_append, List.nil_append, List.append_nil, List.replicate, List.getElem?_cons_zero, List.getElem?_cons_succ, List.take_length, Option.map_some, Option.map_none, if_true, if_false, Bool.false_eq_true, Bool.not_true, Bool.not_false, List.any_cons, List.any_nil, Bool.or_false, isTy, List.set_cons_zero, List.set_cons_succ, setTg, wipeE, tgSlots, seqItems, biD, bopD, List.zip_cons_cons, List.zip_nil_left, List.zip_nil_right, List.foldl_cons, List.foldl_nil, if_neg, Nat.reduceAdd, Nat.reduceSub, reduceIte, dOf_d, i1, dOf_dict (get_end2 (m := m) (o := .dict [(.inl 0, .bool true)]) (p := .lst acc)), hk], fun h => by cases h⟩
        rw [filt_no] at this
        exact this
      obtain ⟨env', m', e1, a, b, kvs, rfl, rfl, e2, e3⟩ := loop (some (.d (.list []))) none
      have q1 : evE (Cn n) (Gc csts) q_is_rooted_1 [some (.d (pl ps)), some (.loc m.length), some (.d (.list (PS ps))), a, b] (m ++ [.dict kvs]) = .ok (.d (.list [])) (m ++ [.dict kvs]) := by
        have := comp_if (Φ := Cn n) (G := Gc csts) (env := [some (.d (pl ps)), some (.loc m.length), some (.d (.list (PS ps))), a, b]) (m := m ++ [.dict kvs]) (elt := .var 4) (c := .cmp .nin (.idx (.var 4) (.int 0)) (.var 1)) (tg := .one 4) (it := .seq (.var 2)) (items := PS ps) (fun _ => false) id
          (by simp [evSs, evS, v_var, v_int, v_bl, v_non, v_str, v_glb, v_tup, v_lst, v_bop, v_neg, v_cmp, v_chn, v_isN, v_notN, v_land, v_lor, v_lnot, v_ite, v_call, v_bi, v_mth, v_idx, v_slc, v_rev, v_isi, v_lrg1, v_lrg2, evEs, evIfs, evIt, evPar, bind_ok, asB, dOf, dsOf, pureD, ofD, ofB, isNon, exitF, exitV, startE, List.length_cons, List.length_nil, List.map_cons, List.map_nil, List.cons_append, List.nil_append, List.append_nil, List.replicate, List.getElem?_cons_zero, List.getElem?_cons_succ, List.take_length, Option.map_some, Option.map_none, if_true, if_false, Bool.false_eq_true, Bool.not_true, Bool.not_false, List.any_cons, List.any_nil, Bool.or_false, isTy, List.set_cons_zero, List.set_cons_succ, setTg, wipeE, tgSlots, seqItems, biD, bopD, cmpD, List.zip_cons_cons, List.zip_nil_left, List.zip_nil_right, List.foldl_cons, List.foldl_nil, if_neg, Nat.reduceAdd, Nat.reduceSub, reduceIte]) (szl (by omega)) fun x hx acc => by
            obtain ⟨j, hj⟩ := List.mem_iff_getElem?.mp hx
            obtain ⟨p, hp, rfl, hnm, hup, hms⟩ := PS_get F hj
            obtain ⟨i0, i1, i2, i3, i4⟩ := pd_ix p
            have hjl := (List.getElem?_eq_some_iff.mp hj).1
            have hk : cmpD .nin (.int p.nm) (dictD kvs) = some false := by
              show (inD (.int p.nm) (dictD kvs)).map not = some false
              rw [in_dictI, e3 p.nm (by omega)]; rfl
            exact ⟨_, rfl, by simp [evSs, evS, v_var, v_int, v_bl, v_non, v_str, v_glb, v_tup, v_lst, v_bop, v_neg, v_cmp, v_chn, v_isN, v_notN, v_land, v_lor, v_lnot, v_ite, v_call, v_bi, v_mth, v_idx, v_slc, v_rev, v_isi, v_lrg1, v_lrg2, evEs, evIfs, evIt, evPar, bind_ok, asB, dOf, dsOf, pureD, ofD, ofB, isNon, exitF, exitV, startE, List.length_cons, List.length_nil, List.map_cons, List.map_nil, List.cons_append, List.nil_append, List.append_nil, List.replicate, List.getElem?_cons_zero, List.getElem?_cons_succ, List.take_length, Option.map_some, Option.map_none, if_true, if_false, Bool.false_eq_true, Bool.not_true, Bool.not_false, List.any_cons, List.any_nil, Bool.or_false, isTy, List.set_cons_zero, List.set_cons_succ, setTg, wipeE, tgSlots, seqItems, biD, bopD, List.zip_cons_cons, List.zip_nil_left, List.zip_nil_right, List.foldl_cons, List.foldl_nil, if_neg, Nat.reduceAdd, Nat.reduceSub, reduceIte, dOf_d, i0, dOf_dict (get_end2 (m := m) (o := .dict kvs) (p := .lst acc)), hk], fun h => by cases h⟩
        rw [filt_no] at this
        exact this
      have nl : ((0 : Int) == ((PS ps).length : Int)) = false := by
        have : ¬ ((0 : Int) = ((PS ps).length : Int)) := by omega
        simpa using this
      refine ⟨_, _, ?_, .inr ⟨rfl, a, b, kvs, rfl, rfl⟩⟩
      have c0 : cmpD .eq (.int 0) (.int ((PS ps).length : Int)) = some false := by
        simp only [cmpD, cmpable, scalD, Bool.and_self, Bool.true_or, if_true, PyData.eqv, nl]
      simp [evSs, evS, v_var, v_int, v_bl, v_non, v_str, v_glb, v_tup, v_lst, v_bop, v_neg, v_cmp, v_chn, v_isN, v_notN, v_land, v_lor, v_lnot, v_ite, v_call, v_bi, v_mth, v_idx, v_slc, v_rev, v_isi, v_lrg1, v_lrg2, evEs, evIfs, evIt, evPar, bind_ok, asB, dOf, dsOf, pureD, ofD, ofB, isNon, exitF, exitV, startE, List.length_cons, List.length_nil, List.map_cons, List.map_nil, List.cons_append, List.nil_append, List.append_nil, List.replicate, List.getElem?_cons_zero, List.getElem?_cons_succ, List.take_length, Option.map_some, Option.map_none, if_true, if_false, Bool.false_eq_true, Bool.not_true, Bool.not_false, List.any_cons, List.any_nil, Bool.or_false, isTy, List.set_cons_zero, List.set_cons_succ, setTg, wipeE, tgSlots, seqItems, biD, bopD, List.zip_cons_cons, List.zip_nil_left, List.zip_nil_right, List.foldl_cons, List.foldl_nil, if_neg, Nat.reduceAdd, Nat.reduceSub, reduceIte, q0, e1, q1, lenD, dOf_d, c0]
    · cases h
  · rcases hI with ⟨h, _⟩ | ⟨_, a, b, kvs, rfl, rfl⟩
    · cases h
    · simp [evSs, evS, v_var, v_int, v_bl, v_non, v_str, v_glb, v_tup, v_lst, v_bop, v_neg, v_cmp, v_chn, v_isN, v_notN, v_land, v_lor, v_lnot, v_ite, v_call, v_bi, v_mth, v_idx, v_slc, v_rev, v_isi, v_lrg1, v_lrg2, evEs, evIfs, evIt, evPar, bind_ok, asB, dOf, dsOf, pureD, ofD, ofB, isNon, exitF, exitV, startE, List.length_cons, List.length_nil, List.map_cons, List.map_nil, List.cons_append, List.nil_append, List.append_nil, List.replicate, List.getElem?_cons_zero, List.getElem?_cons_succ, List.take_length, Option.map_some, Option.map_none, if_true, if_false, Bool.false_eq_true, Bool.not_true, Bool.not_false, List.any_cons, List.any_nil, Bool.or_false, isTy, List.set_cons_zero, List.set_cons_succ, setTg, wipeE, tgSlots, seqItems, biD, bopD, List.zip_cons_cons, List.zip_nil_left, List.zip_nil_right, List.foldl_cons, List.foldl_nil, if_neg, Nat.reduceAdd, Nat.reduceSub, reduceIte, dOf_d, nil_ne]
end k19
end Kp
end

section
set_option Elab.async false
set_option linter.all false
set_option maxRecDepth 100000
set_option maxHeartbeats 2000077
namespace Kp
namespace k19
open PySem
section
variable {ps : List Pn} {n : Nat} {m : Store} {k : Nat} {P : Pn}
theorem pl_len (F : Flat ps) : ((g0 :: ps).map Pn.d).length ≤ 31 := by
  have := F.len
  simp; omega
theorem in_L (F : Flat ps) {p : Pn} (h : p ∈ g0 :: ps) : (p.ms = [] ∨ p.ms = [("stop" : Str)]) ∧ (p.up = none ∨ p.up = some 0) := by
  rcases List.mem_cons.mp h with rfl | h
  · exact ⟨.inl rfl, .inl rfl⟩
  · exact ⟨.inr (F.ok p h).2.2, .inr (F.ok p h).2.1⟩
theorem PL_mem {x : D} (h : x ∈ (g0 :: ps).map Pn.d) : ∃ p ∈ g0 :: ps, x = p.d := by
  obtain ⟨p, h1, h2⟩ := List.mem_map.mp h
  exact ⟨p, h1, h2.symm⟩
theorem g0_ok : g0.Ok := ⟨by decide, .inl rfl, by decide, by decide, by decide, by decide, .inl rfl⟩
theorem c_fits_in (hn : 5 ≤ n) (F : Flat ps) : Cn n 14 [.d (pl ps)] m = .ok (.d (.bool true)) m := by
  obtain ⟨n, rfl⟩ := up1 (by omega : 1 ≤ n)
  rw [call_def (fn := f_fits_in) rfl rfl]
  have hl := pl_len F
  have l1 := F.len
  have q0 : evE (Cn n) (Gc csts) q_fits_in_0 [some (.d (pl ps)), none] m = .ok (.d (.list (((g0 :: ps).map Pn.d).map fun _ => .bool true))) m := by
    refine comp_map (items := (g0 :: ps).map Pn.d) (fun _ => .bool true) (by simp [evSs, evS, v_var, v_int, v_bl, v_non, v_str, v_glb, v_tup, v_lst, v_bop, v_neg, v_cmp, v_chn, v_isN, v_notN, v_land, v_lor, v_lnot, v_ite, v_call, v_bi, v_mth, v_idx, v_slc, v_rev, v_isi, v_lrg1, v_lrg2, evEs, evIfs, evIt, evPar, bind_ok, asB, dOf, dsOf, pureD, ofD, ofB, isNon, exitF, exitV, startE, List.length_cons, List.length_nil, List.map_cons, List.map_nil, List.cons_append, List.nil_append, List.append_nil, List.replicate, List.getElem?_cons_zero, List.getElem?_cons_succ, List.take_length, Option.map_some, Option.map_none, if_true, if_false, Bool.false_eq_true, Bool.not_true, Bool.not_false, List.any_cons, List.any_nil, Bool.or_false, isTy, List.set_cons_zero, List.set_cons_succ, setTg, wipeE, tgSlots, seqItems, biD, bopD, cmpD, List.zip_cons_cons, List.zip_nil_left, List.zip_nil_right, List.foldl_cons, List.foldl_nil, if_neg, Nat.reduceAdd, Nat.reduceSub, reduceIte, pl]) (szl (by omega)) fun x hx acc => ?_
    obtain ⟨p, hp, rfl⟩ := PL_mem hx
    have ok : p.Ok := by
      rcases List.mem_cons.mp hp with rfl | hp
      · exact g0_ok
      · exact (F.ok p hp).1
    exact ⟨_, rfl, by simp [evSs, evS, v_var, v_int, v_bl, v_non, v_str, v_glb, v_tup, v_lst, v_bop, v_neg, v_cmp, v_chn, v_isN, v_notN, v_land, v_lor, v_lnot, v_ite, v_call, v_bi, v_mth, v_idx, v_slc, v_rev, v_isi, v_lrg1, v_lrg2, evEs, evIfs, evIt, evPar, bind_ok, asB, dOf, dsOf, pureD, ofD, ofB, isNon, exitF, exitV, startE, List.length_cons, List.length_nil, List.map_cons, List.map_nil, List.cons_append, List.nil_append, List.append_nil, List.replicate, List.getElem?_cons_zero, List.getElem?_cons_succ, List.take_length, Option.map_some, Option.map_none, if_true, if_false, Bool.false_eq_true, Bool.not_true, Bool.not_false, List.any_cons, List.any_nil, Bool.or_false, isTy, List.set_cons_zero, List.set_cons_succ, setTg, wipeE, tgSlots, seqItems, biD, bopD, cmpD, List.zip_cons_cons, List.zip_nil_left, List.zip_nil_right, List.foldl_cons, List.foldl_nil, if_neg, Nat.reduceAdd, Nat.reduceSub, reduceIte, c_is_pane (by omega : 3 ≤ n) _ p ok]⟩
  have q1 : evE (Cn n) (Gc csts) q_fits_in_1 [some (.d (pl ps)), none] m = .ok (.d (.list (((g0 :: ps).map fun p => (p.nm : Int)).map .int))) m := by
    have := comp_map (Φ := Cn n) (G := Gc csts) (env := [some (.d (pl ps)), none]) (m := m) (elt := .idx (.var 1) (.int 0)) (tg := .one 1) (it := .seq (.var 0)) (items := (g0 :: ps).map Pn.d) (fun d => match idxD d (.int 0) with | some z => z | none => .none) (by simp [evSs, evS, v_var, v_int, v_bl, v_non, v_str, v_glb, v_tup, v_lst, v_bop, v_neg, v_cmp, v_chn, v_isN, v_notN, v_land, v_lor, v_lnot, v_ite, v_call, v_bi, v_mth, v_idx, v_slc, v_rev, v_isi, v_lrg1, v_lrg2, evEs, evIfs, evIt, evPar, bind_ok, asB, dOf, dsOf, pureD, ofD, ofB, isNon, exitF, exitV, startE, List.length_cons, List.length_nil, List.map_cons, List.map_nil, List.cons_append, List.nil_append, List.append_nil, List.replicate, List.getElem?_cons_zero, List.getElem?_cons_succ, List.take_length, Option.map_some, Option.map_none, if_true, if_false, Bool.false_eq_true, Bool.not_true, Bool.not_false, List.any_cons, List.any_nil, Bool.or_false, isTy, List.set_cons_zero, List.set_cons_succ, setTg, wipeE, tgSlots, seqItems, biD, bopD, cmpD, List.zip_cons_cons, List.zip_nil_left, List.zip_nil_right, List.foldl_cons, List.foldl_nil, if_neg, Nat.reduceAdd, Nat.reduceSub, reduceIte, pl]) (szl (by omega)) fun x hx acc => by
      obtain ⟨p, hp, rfl⟩ := PL_mem hx
      exact ⟨_, rfl, by simp [evSs, evS, v_var, v_int, v_bl, v_non, v_str, v_glb, v_tup, v_lst, v_bop, v_neg, v_cmp, v_chn, v_isN, v_notN, v_land, v_lor, v_lnot, v_ite, v_call, v_bi, v_mth, v_idx, v_slc, v_rev, v_isi, v_lrg1, v_lrg2, evEs, evIfs, evIt, evPar, bind_ok, asB, dOf, dsOf, pureD, ofD, ofB, isNon, exitF, exitV, startE, List.length_cons, List.length_nil, List.map_cons, List.map_nil, List.cons_append, List.nil_append, List.append_nil, List.replicate, List.getElem?_cons_zero, List.getElem?_cons_succ, List.take_length, Option.map_some, Option.map_none, if_true, if_false, Bool.false_eq_true, Bool.not_true, Bool.not_false, List.any_cons, List.any_nil, Bool.or_false, isTy, List.set_cons_zero, List.set_cons_succ, setTg, wipeE, tgSlots, seqItems, biD, bopD, cmpD, List.zip_cons_cons, List.zip_nil_left, List.zip_nil_right, List.foldl_cons, List.foldl_nil, if_neg, Nat.reduceAdd, Nat.reduceSub, reduceIte, dOf_d, (pd_ix p).1]⟩
    rw [List.map_map] at this ⊢
    have e : ((fun d => match idxD d (PyData.int 0) with | some z => z | none => PyData.none) ∘ Pn.d) = (PyData.int ∘ fun p : Pn => (p.nm : Int)) := by
      funext p
      simp only [Function.comp_apply, (pd_ix p).1]
    rw [e] at this
    exact this
  have ris : Cn n 7 [.d (.list (((g0 :: ps).map fun p => (p.nm : Int)).map .int))] m = .ok (.d (.bool true)) m := by
    refine c_rises (by omega) m _ (by simp; omega) fun i a b ha hb => ?_
    rw [List.getElem?_map, Option.map_eq_some_iff] at ha hb
    obtain ⟨p, h1, rfl⟩ := ha
    obtain ⟨q, h2, rfl⟩ := hb
    rw [F.nm i p h1, F.nm (i + 1) q h2]
    omega
  have gr := c_is_ground (by omega : 1 ≤ n) m
  have ro := c_is_rooted (by omega : 1 ≤ n) m F
  have sheet : cmpD .inn (.str "sheet") (.tuple [.str "stop"]) = some false := by kernel_rfl
  have loop : ∀ a, ∃ env', evS (Cn n) (Gc csts) l_fits_in_0 [some (.d (pl ps)), a] m = .ok (.next env') m ∧ ∃ a, env' = [some (.d (pl ps)), a] := by
    intro a
    have st := for_ok (b := fun x env m => match setTg (.one 1) x env with
      | some env => evSs (Cn n) (Gc csts) [.ife (.lor (.isN (.idx (.var 1) (.int 1))) (.land (.cmp .inn (.str "sheet") (.idx (.var 1) (.int 4))) (.cmp .ne (.idx (.var 1) (.int 1)) (.int 0)))) [.ret (.bl false)] []] env m
      | none => .stuck) (fun i env m' => m' = m ∧ ∃ a, env = [some (.d (pl ps)), a]) (PS ps) 0 [some (.d (pl ps)), a] m ⟨rfl, a, rfl⟩ (fun j x env m' hx hI => ?_)
    · obtain ⟨env', m', e1, e2, e3⟩ := st
      subst e2
      refine ⟨env', ?_, e3⟩
      have e : slcD (pl ps) (some 1) none = some (.tuple (PS ps)) := by simp [slcD, pl, cut1, PS]
      have ei : evIt (Cn n) (Gc csts) (.seq (.slc (.var 0) true false (.int 1) .non)) [some (.d (pl ps)), a] m' = .ok (PS ps) m' := by
        simp [evSs, evS, v_var, v_int, v_bl, v_non, v_str, v_glb, v_tup, v_lst, v_bop, v_neg, v_cmp, v_chn, v_isN, v_notN, v_land, v_lor, v_lnot, v_ite, v_call, v_bi, v_mth, v_idx, v_slc, v_rev, v_isi, v_lrg1, v_lrg2, evEs, evIfs, evIt, evPar, bind_ok, asB, dOf, dsOf, pureD, ofD, ofB, isNon, exitF, exitV, startE, List.length_cons, List.length_nil, List.map_cons, List.map_nil, List.cons_append, List.nil_append, List.append_nil, List.replicate, List.getElem?_cons_zero, List.getElem?_cons_succ, List.take_length, Option.map_some, Option.map_none, if_true, if_false, Bool.false_eq_true, Bool.not_true, Bool.not_false, List.any_cons, List.any_nil, Bool.or_false, isTy, List.set_cons_zero, List.set_cons_succ, setTg, wipeE, tgSlots, seqItems, biD, bopD, cmpD, List.zip_cons_cons, List.zip_nil_left, List.zip_nil_right, List.foldl_cons, List.foldl_nil, if_neg, Nat.reduceAdd, Nat.reduceSub, reduceIte, e, dOf_d]
      simp only [l_fits_in_0, s_for, ei, bind_ok]
      exact e1
    · obtain ⟨rfl, a, rfl⟩ := hI
      obtain ⟨p, hp, rfl, hnm, hup, hms⟩ := PS_get F hx
      obtain ⟨i0, i1, i2, i3, i4⟩ := pd_ix p
      rw [hup] at i1
      rw [hms] at i4
      exact ⟨_, m', by simp [evSs, evS, v_var, v_int, v_bl, v_non, v_str, v_glb, v_tup, v_lst, v_bop, v_neg, v_cmp, v_chn, v_isN, v_notN, v_land, v_lor, v_lnot, v_ite, v_call, v_bi, v_mth, v_idx, v_slc, v_rev, v_isi, v_lrg1, v_lrg2, evEs, evIfs, evIt, evPar, bind_ok, asB, dOf, dsOf, pureD, ofD, ofB, isNon, exitF, exitV, startE, List.length_cons, List.length_nil, List.map_cons, List.map_nil, List.cons_append, List.nil_append, List.append_nil, List.replicate, List.getElem?_cons_zero, List.getElem?_cons_succ, List.take_length, Option.map_some, Option.map_none, if_true, if_false, Bool.false_eq_true, Bool.not_true, Bool.not_false, List.any_cons, List.any_nil, Bool.or_false, isTy, List.set_cons_zero, List.set_cons_succ, setTg, wipeE, tgSlots, seqItems, biD, bopD, List.zip_cons_cons, List.zip_nil_left, List.zip_nil_right, List.foldl_cons, List.foldl_nil, if_neg, Nat.reduceAdd, Nat.reduceSub, reduceIte, dOf_d, i1, i4, upD, sheet], rfl, some (.d p.d), rfl⟩
  obtain ⟨env', lo, a, rfl⟩ := loop none
  have all1 : biD .all [.list (((g0 :: ps).map Pn.d).map fun _ => PyData.bool true)] = some (.bool true) := by
    rw [all_bools (k := (g0 :: ps).map Pn.d) (p := fun _ => true) rfl]; simp
  have len1 : biD .len [pl ps] = some (.int ((ps.length + 1 : Nat) : Int)) := by simp [biD, pl, lenD]
  have lt1 : cmpD .lt (.int ((ps.length + 1 : Nat) : Int)) (.int 1) = some false := by
    have : ¬ ((ps.length + 1 : Nat) : Int) < 1 := by omega
    simp only [cmpD, ltD, decide_eq_false this]
  have at0 : idxD (pl ps) (.int 0) = some g0.d := by simp [pl, idxD, L2.atI, L2.ixN]
  have S1 : evS (Cn n) (Gc csts) (.ife (.lor (.cmp .lt (.bi .len [.var 0]) (.int 1)) (.lnot (.bi .all [q_fits_in_0]))) [.ret (.bl false)] []) [some (.d (pl ps)), none] m = .ok (.next [some (.d (pl ps)), none]) m := by
    simp only [evS, v_lor, v_cmp, v_bi, evEs, v_var, List.getElem?_cons_zero, bind_ok, dsOf, dOf_d, len1, ofD, v_int, lt1, ofB, asB, Bool.false_eq_true, if_false, v_lnot, q0, all1, Bool.not_true, evSs]
  have S2 : evS (Cn n) (Gc csts) (.ife (.lor (.lnot (.call 7 [q_fits_in_1])) (.lnot (.call 12 [.idx (.var 0) (.int 0)]))) [.ret (.bl false)] []) [some (.d (pl ps)), none] m = .ok (.next [some (.d (pl ps)), none]) m := by
    simp only [evS, v_lor, v_lnot, v_call, evEs, q1, bind_ok, ris, asB, Bool.not_true, Bool.false_eq_true, if_false, v_idx, v_var, List.getElem?_cons_zero, v_int, dOf_d, at0, ofD, gr, evSs]
  simp only [f_fits_in, b_fits_in, startE, List.map_cons, List.map_nil, List.length_cons, List.length_nil, List.replicate, List.cons_append, List.nil_append, Nat.reduceAdd, Nat.reduceSub, evSs, S1, S2, lo, bind_ok]
  simp [evS, v_call, evEs, v_var, ro, exitF, exitV]
theorem c_is_plan (hn : 6 ≤ n) (F : Flat ps) : Cn n 15 [.d (pl ps)] m = .ok (.d (.bool true)) m := by
  obtain ⟨n, rfl⟩ := up1 (by omega : 1 ≤ n)
  rw [call_def (fn := f_is_plan) rfl rfl]
  have l1 := F.len
  have len1 : biD .len [pl ps] = some (.int ((ps.length + 1 : Nat) : Int)) := by simp [biD, pl, lenD]
  have le1 : cmpD .le (.int ((ps.length + 1 : Nat) : Int)) (.int 40) = some true := by
    have : ((ps.length + 1 : Nat) : Int) ≤ 40 := by omega
    simp only [cmpD, decide_eq_true this]
  have ty : isTy (pl ps) .tuple = true := rfl
  simp only [f_is_plan, b_is_plan, startE, List.map_cons, List.map_nil, List.length_cons, List.length_nil, List.replicate, List.cons_append, List.nil_append, Nat.reduceAdd, Nat.reduceSub, evSs, evS, v_land, v_isi, v_var, List.getElem?_cons_zero, bind_ok, dOf_d, List.any_cons, List.any_nil, ty, Bool.or_false, asB, if_true, v_cmp, v_bi, evEs, dsOf, len1, ofD, v_glb, g_MP, le1, ofB, v_call, c_fits_in (by omega : 5 ≤ n) F, exitF, exitV, List.take_length]
theorem c_see_plan (hn : 7 ≤ n) (F : Flat ps) : Cn n 16 [.d (pl ps)] m = .ok (.d .none) m := by
  obtain ⟨n, rfl⟩ := up1 (by omega : 1 ≤ n)
  rw [call_def (fn := f_see_plan) rfl rfl]
  simp [f_see_plan, b_see_plan, evSs, evS, v_var, v_int, v_bl, v_non, v_str, v_glb, v_tup, v_lst, v_bop, v_neg, v_cmp, v_chn, v_isN, v_notN, v_land, v_lor, v_lnot, v_ite, v_call, v_bi, v_mth, v_idx, v_slc, v_rev, v_isi, v_lrg1, v_lrg2, evEs, evIfs, evIt, evPar, bind_ok, asB, dOf, dsOf, pureD, ofD, ofB, isNon, exitF, exitV, startE, List.length_cons, List.length_nil, List.map_cons, List.map_nil, List.cons_append, List.nil_append, List.append_nil, List.replicate, List.getElem?_cons_zero, List.getElem?_cons_succ, List.take_length, Option.map_some, Option.map_none, if_true, if_false, Bool.false_eq_true, Bool.not_true, Bool.not_false, List.any_cons, List.any_nil, Bool.or_false, isTy, List.set_cons_zero, List.set_cons_succ, setTg, wipeE, tgSlots, seqItems, biD, bopD, cmpD, List.zip_cons_cons, List.zip_nil_left, List.zip_nil_right, List.foldl_cons, List.foldl_nil, if_neg, Nat.reduceAdd, Nat.reduceSub, reduceIte, c_is_plan (by omega : 6 ≤ n) F]
/-- which pane has the name -/
def nmB (k : Int) (d : D) : Bool := match idxD d (.int 0) with
  | some (.int i) => i == k
  | _ => false
theorem nmB_d (k : Int) (p : Pn) : nmB k p.d = ((p.nm : Int) == k) := by
  unfold nmB
  rw [(pd_ix p).1]
theorem filt_at : ∀ {l : List Pn} {off k : Nat} {P : Pn}, (∀ (i : Nat) p, l[i]? = some p → p.nm = off + i) → l[k]? = some P → (l.map Pn.d).filter (nmB ((off + k : Nat) : Int)) = [P.d]
  | [], off, k, P, _, h => by simp at h
  | p :: l, off, 0, P, hn, h => by
    simp at h
    subst h
    have h0 := hn 0 p rfl
    have rest : (l.map Pn.d).filter (nmB ((off + 0 : Nat) : Int)) = [] := by
      rw [List.filter_eq_nil_iff]
      intro x hx
      obtain ⟨q, hq, rfl⟩ := List.mem_map.mp hx
      obtain ⟨i, hi⟩ := List.mem_iff_getElem?.mp hq
      have := hn (i + 1) q (by simpa using hi)
      rw [nmB_d]
      simp; omega
    rw [List.map_cons, List.filter_cons, rest, nmB_d]
    have : ((p.nm : Int) == ((off + 0 : Nat) : Int)) = true := by simp; omega
    rw [this]; rfl
  | p :: l, off, k + 1, P, hn, h => by
    have h0 := hn 0 p rfl
    have := filt_at (l := l) (off := off + 1) (k := k) (P := P) (fun i q hi => by rw [hn (i + 1) q (by simpa using hi)]; omega) (by simpa using h)
    rw [List.map_cons, List.filter_cons, nmB_d]
    have e : ((p.nm : Int) == ((off + (k + 1) : Nat) : Int)) = false := by simp; omega
    rw [e]
    have e2 : off + 1 + k = off + (k + 1) := by omega
    rw [e2] at this
    exact this
theorem cmp_eqI (i j : Int) : cmpD .eq (.int i) (.int j) = some (i == j) := by
  simp only [cmpD, cmpable, scalD, Bool.and_self, Bool.true_or, if_true, PyData.eqv]
theorem cmp_neI (i j : Int) : cmpD .ne (.int i) (.int j) = some (!(i == j)) := by
  simp only [cmpD, cmpable, scalD, Bool.and_self, Bool.true_or, if_true, PyData.eqv]
theorem at_k (F : Flat ps) (hk : (g0 :: ps)[k]? = some P) : ((g0 :: ps).map Pn.d).filter (nmB (k : Int)) = [P.d] := by
  have := filt_at (l := g0 :: ps) (off := 0) (k := k) (P := P) (fun i p hi => by rw [F.nm i p hi]; omega) hk
  rwa [Nat.zero_add] at this
theorem c_the_pane (hn : 1 ≤ n) (F : Flat ps) (hk : (g0 :: ps)[k]? = some P) : Cn n 19 [.d (pl ps), .d (.int (k : Int))] m = .ok (.d P.d) m := by
  obtain ⟨n, rfl⟩ := up1 hn
  rw [call_def (fn := f_the_pane) rfl rfl]
  have hl := pl_len F
  have q0 : evE (Cn n) (Gc csts) q_the_pane_0 [some (.d (pl ps)), some (.d (.int (k : Int))), none] m = .ok (.d (.list [P.d])) m := by
    have := comp_if (Φ := Cn n) (G := Gc csts) (env := [some (.d (pl ps)), some (.d (.int (k : Int))), none]) (m := m) (elt := .var 2) (c := .cmp .eq (.idx (.var 2) (.int 0)) (.var 1)) (tg := .one 2) (it := .seq (.var 0)) (items := (g0 :: ps).map Pn.d) (nmB (k : Int)) id (by simp [evSs, evS, v_var, v_int, v_bl, v_non, v_str, v_glb, v_tup, v_lst, v_bop, v_neg, v_cmp, v_chn, v_isN, v_notN, v_land, v_lor, v_lnot, v_ite, v_call, v_bi, v_mth, v_idx, v_slc, v_rev, v_isi, v_lrg1, v_lrg2, evEs, evIfs, evIt, evPar, bind_ok, asB, dOf, dsOf, pureD, ofD, ofB, isNon, exitF, exitV, startE, List.length_cons, List.length_nil, List.map_cons, List.map_nil, List.cons_append, List.nil_append, List.append_nil, List.replicate, List.getElem?_cons_zero, List.getElem?_cons_succ, List.take_length, Option.map_some, Option.map_none, if_true, if_false, Bool.false_eq_true, Bool.not_true, Bool.not_false, List.any_cons, List.any_nil, Bool.or_false, isTy, List.set_cons_zero, List.set_cons_succ, setTg, wipeE, tgSlots, seqItems, biD, bopD, cmpD, List.zip_cons_cons, List.zip_nil_left, List.zip_nil_right, List.foldl_cons, List.foldl_nil, if_neg, Nat.reduceAdd, Nat.reduceSub, reduceIte, pl]) (szl (by omega)) fun x hx acc => by
      obtain ⟨p, hp, rfl⟩ := PL_mem hx
      exact ⟨_, rfl, by simp [evSs, evS, v_var, v_int, v_bl, v_non, v_str, v_glb, v_tup, v_lst, v_bop, v_neg, v_cmp, v_chn, v_isN, v_notN, v_land, v_lor, v_lnot, v_ite, v_call, v_bi, v_mth, v_idx, v_slc, v_rev, v_isi, v_lrg1, v_lrg2, evEs, evIfs, evIt, evPar, bind_ok, asB, dOf, dsOf, pureD, ofD, ofB, isNon, exitF, exitV, startE, List.length_cons, List.length_nil, List.map_cons, List.map_nil, List.cons_append, List.nil_append, List.append_nil, List.replicate, List.getElem?_cons_zero, List.getElem?_cons_succ, List.take_length, Option.map_some, Option.map_none, if_true, if_false, Bool.false_eq_true, Bool.not_true, Bool.not_false, List.any_cons, List.any_nil, Bool.or_false, isTy, List.set_cons_zero, List.set_cons_succ, setTg, wipeE, tgSlots, seqItems, biD, bopD, List.zip_cons_cons, List.zip_nil_left, List.zip_nil_right, List.foldl_cons, List.foldl_nil, if_neg, Nat.reduceAdd, Nat.reduceSub, reduceIte, dOf_d, (pd_ix p).1, cmp_eqI, nmB_d], fun _ => by simp [evSs, evS, v_var, v_int, v_bl, v_non, v_str, v_glb, v_tup, v_lst, v_bop, v_neg, v_cmp, v_chn, v_isN, v_notN, v_land, v_lor, v_lnot, v_ite, v_call, v_bi, v_mth, v_idx, v_slc, v_rev, v_isi, v_lrg1, v_lrg2, evEs, evIfs, evIt, evPar, bind_ok, asB, dOf, dsOf, pureD, ofD, ofB, isNon, exitF, exitV, startE, List.length_cons, List.length_nil, List.map_cons, List.map_nil, List.cons_append, List.nil_append, List.append_nil, List.replicate, List.getElem?_cons_zero, List.getElem?_cons_succ, List.take_length, Option.map_some, Option.map_none, if_true, if_false, Bool.false_eq_true, Bool.not_true, Bool.not_false, List.any_cons, List.any_nil, Bool.or_false, isTy, List.set_cons_zero, List.set_cons_succ, setTg, wipeE, tgSlots, seqItems, biD, bopD, cmpD, List.zip_cons_cons, List.zip_nil_left, List.zip_nil_right, List.foldl_cons, List.foldl_nil, if_neg, Nat.reduceAdd, Nat.reduceSub, reduceIte]⟩
    rw [at_k F hk] at this
    simpa [q_the_pane_0] using this
  have a0 : idxD (.list [P.d]) (.int 0) = some P.d := by simp [idxD, L2.atI, L2.ixN]
  simp [f_the_pane, b_the_pane, evSs, evS, v_var, v_int, v_bl, v_non, v_str, v_glb, v_tup, v_lst, v_bop, v_neg, v_cmp, v_chn, v_isN, v_notN, v_land, v_lor, v_lnot, v_ite, v_call, v_bi, v_mth, v_idx, v_slc, v_rev, v_isi, v_lrg1, v_lrg2, evEs, evIfs, evIt, evPar, bind_ok, asB, dOf, dsOf, pureD, ofD, ofB, isNon, exitF, exitV, startE, List.length_cons, List.length_nil, List.map_cons, List.map_nil, List.cons_append, List.nil_append, List.append_nil, List.replicate, List.getElem?_cons_zero, List.getElem?_cons_succ, List.take_length, Option.map_some, Option.map_none, if_true, if_false, Bool.false_eq_true, Bool.not_true, Bool.not_false, List.any_cons, List.any_nil, Bool.or_false, isTy, List.set_cons_zero, List.set_cons_succ, setTg, wipeE, tgSlots, seqItems, biD, bopD, List.zip_cons_cons, List.zip_nil_left, List.zip_nil_right, List.foldl_cons, List.foldl_nil, if_neg, Nat.reduceAdd, Nat.reduceSub, reduceIte, q0, dOf_d, a0]
theorem c_has_name (hn : 3 ≤ n) (F : Flat ps) (hk : k ≤ ps.length) : Cn n 17 [.d (pl ps), .d (.int (k : Int))] m = .ok (.d (.bool true)) m := by
  obtain ⟨n, rfl⟩ := up1 (by omega : 1 ≤ n)
  rw [call_def (fn := f_has_name) rfl rfl]
  have hl := pl_len F
  have l1 := F.len
  have q0 : evE (Cn n) (Gc csts) q_has_name_0 [some (.d (pl ps)), some (.d (.int (k : Int))), none] m = .ok (.d (.list (((g0 :: ps).map fun p => (p.nm : Int)).map .int))) m := by
    have := comp_map (Φ := Cn n) (G := Gc csts) (env := [some (.d (pl ps)), some (.d (.int (k : Int))), none]) (m := m) (elt := .idx (.var 2) (.int 0)) (tg := .one 2) (it := .seq (.var 0)) (items := (g0 :: ps).map Pn.d) (fun d => match idxD d (.int 0) with | some z => z | none => .none) (by simp [evSs, evS, v_var, v_int, v_bl, v_non, v_str, v_glb, v_tup, v_lst, v_bop, v_neg, v_cmp, v_chn, v_isN, v_notN, v_land, v_lor, v_lnot, v_ite, v_call, v_bi, v_mth, v_idx, v_slc, v_rev, v_isi, v_lrg1, v_lrg2, evEs, evIfs, evIt, evPar, bind_ok, asB, dOf, dsOf, pureD, ofD, ofB, isNon, exitF, exitV, startE, List.length_cons, List.length_nil, List.map_cons, List.map_nil, List.cons_append, List.nil_append, List.append_nil, List.replicate, List.getElem?_cons_zero, List.getElem?_cons_succ, List.take_length, Option.map_some, Option.map_none, if_true, if_false, Bool.false_eq_true, Bool.not_true, Bool.not_false, List.any_cons, List.any_nil, Bool.or_false, isTy, List.set_cons_zero, List.set_cons_succ, setTg, wipeE, tgSlots, seqItems, biD, bopD, cmpD, List.zip_cons_cons, List.zip_nil_left, List.zip_nil_right, List.foldl_cons, List.foldl_nil, if_neg, Nat.reduceAdd, Nat.reduceSub, reduceIte, pl]) (szl (by omega)) fun x hx acc => by
      obtain ⟨p, hp, rfl⟩ := PL_mem hx
      exact ⟨_, rfl, by simp [evSs, evS, v_var, v_int, v_bl, v_non, v_str, v_glb, v_tup, v_lst, v_bop, v_neg, v_cmp, v_chn, v_isN, v_notN, v_land, v_lor, v_lnot, v_ite, v_call, v_bi, v_mth, v_idx, v_slc, v_rev, v_isi, v_lrg1, v_lrg2, evEs, evIfs, evIt, evPar, bind_ok, asB, dOf, dsOf, pureD, ofD, ofB, isNon, exitF, exitV, startE, List.length_cons, List.length_nil, List.map_cons, List.map_nil, List.cons_append, List.nil_append, List.append_nil, List.replicate, List.getElem?_cons_zero, List.getElem?_cons_succ, List.take_length, Option.map_some, Option.map_none, if_true, if_false, Bool.false_eq_true, Bool.not_true, Bool.not_false, List.any_cons, List.any_nil, Bool.or_false, isTy, List.set_cons_zero, List.set_cons_succ, setTg, wipeE, tgSlots, seqItems, biD, bopD, cmpD, List.zip_cons_cons, List.zip_nil_left, List.zip_nil_right, List.foldl_cons, List.foldl_nil, if_neg, Nat.reduceAdd, Nat.reduceSub, reduceIte, dOf_d, (pd_ix p).1]⟩
    rw [List.map_map] at this ⊢
    have e : ((fun d => match idxD d (PyData.int 0) with | some z => z | none => PyData.none) ∘ Pn.d) = (PyData.int ∘ fun p : Pn => (p.nm : Int)) := by
      funext p
      simp only [Function.comp_apply, (pd_ix p).1]
    rw [e] at this
    exact this
  have h1 := c_is_name (by omega : 2 ≤ n) m (k : Int)
  have n1 : (decide ((0 : Int) ≤ (k : Int)) && decide ((k : Int) ≤ 1000000)) = true := by simp; omega
  rw [n1] at h1
  have isin : cmpD .inn (.int (k : Int)) (.list (((g0 :: ps).map fun p => (p.nm : Int)).map .int)) = some true := by
    have sc : (((g0 :: ps).map fun p => (p.nm : Int)).map PyData.int).all scalD = true := by
      rw [List.all_eq_true]
      intro x hx
      obtain ⟨i, _, rfl⟩ := List.mem_map.mp hx
      rfl
    have an : ((((g0 :: ps).map fun p => (p.nm : Int)).map PyData.int).any fun z => PyData.eqv z (.int (k : Int))) = true := by
      rw [List.any_eq_true]
      have hk2 : (g0 :: ps)[k]? = some ((g0 :: ps)[k]'(by simp; omega)) := List.getElem?_eq_getElem _
      refine ⟨.int (k : Int), ?_, by simp [PyData.eqv]⟩
      refine List.mem_map.mpr ⟨(k : Int), List.mem_map.mpr ⟨_, List.mem_of_getElem? hk2, ?_⟩, rfl⟩
      rw [F.nm k _ hk2]
    simp only [cmpD, inD, scalD, sc, Bool.and_self, Bool.true_or, if_true, an]
  generalize ((g0 :: ps).map fun p => (p.nm : Int)).map PyData.int = NL at q0 isin
  simp only [f_has_name, b_has_name, startE, List.map_cons, List.map_nil, List.length_cons, List.length_nil, List.replicate, List.cons_append, List.nil_append, Nat.reduceAdd, Nat.reduceSub, evSs, evS, v_land, v_call, evEs, v_var, List.getElem?_cons_zero, List.getElem?_cons_succ, bind_ok, h1, asB, if_true, v_cmp, q0, dOf_d, isin, ofB, exitF, exitV, List.take_length]
theorem c_see_name (hn : 4 ≤ n) (F : Flat ps) (hk : k ≤ ps.length) : Cn n 18 [.d (pl ps), .d (.int (k : Int))] m = .ok (.d .none) m := by
  obtain ⟨n, rfl⟩ := up1 (by omega : 1 ≤ n)
  rw [call_def (fn := f_see_name) rfl rfl]
  simp [f_see_name, b_see_name, evSs, evS, v_var, v_int, v_bl, v_non, v_str, v_glb, v_tup, v_lst, v_bop, v_neg, v_cmp, v_chn, v_isN, v_notN, v_land, v_lor, v_lnot, v_ite, v_call, v_bi, v_mth, v_idx, v_slc, v_rev, v_isi, v_lrg1, v_lrg2, evEs, evIfs, evIt, evPar, bind_ok, asB, dOf, dsOf, pureD, ofD, ofB, isNon, exitF, exitV, startE, List.length_cons, List.length_nil, List.map_cons, List.map_nil, List.cons_append, List.nil_append, List.append_nil, List.replicate, List.getElem?_cons_zero, List.getElem?_cons_succ, List.take_length, Option.map_some, Option.map_none, if_true, if_false, Bool.false_eq_true, Bool.not_true, Bool.not_false, List.any_cons, List.any_nil, Bool.or_false, isTy, List.set_cons_zero, List.set_cons_succ, setTg, wipeE, tgSlots, seqItems, biD, bopD, cmpD, List.zip_cons_cons, List.zip_nil_left, List.zip_nil_right, List.foldl_cons, List.foldl_nil, if_neg, Nat.reduceAdd, Nat.reduceSub, reduceIte, c_has_name (by omega : 3 ≤ n) F hk]
/-- the way up -/
def upsOf (k : Nat) : List D := if k = 0 then [.int 0] else [.int (k : Int), .int 0]
theorem fold_no {k : Key} : ∀ {l : List (Key × D)} {acc : List (Key × D)}, (∀ p ∈ l, p.1 ≠ k) → lookK (l.foldl (fun a p => putK a p.1 p.2) acc) k = lookK acc k
  | [], acc, _ => rfl
  | p :: l, acc, h => by
    rw [List.foldl_cons, fold_no fun q hq => h q (List.mem_cons_of_mem _ hq), look_put, if_neg (h p (by simp))]
theorem fold_at : ∀ {l : List Pn} {off k : Nat} {P : Pn} {acc : List (Key × D)}, (∀ (i : Nat) p, l[i]? = some p → p.nm = off + i) → l[k]? = some P → lookK ((l.map fun p => ((.inl (p.nm : Int) : Key), upD p.up)).foldl (fun a p => putK a p.1 p.2) acc) (.inl ((off + k : Nat) : Int)) = some (upD P.up)
  | [], off, k, P, acc, _, h => by simp at h
  | p :: l, off, 0, P, acc, hn, h => by
    simp at h
    subst h
    have h0 := hn 0 p rfl
    rw [List.map_cons, List.foldl_cons, fold_no, look_put, if_pos (by rw [h0])]
    intro q hq e
    obtain ⟨r, hr, rfl⟩ := List.mem_map.mp hq
    obtain ⟨i, hi⟩ := List.mem_iff_getElem?.mp hr
    have := hn (i + 1) r (by simpa using hi)
    simp only [Sum.inl.injEq] at e
    omega
  | p :: l, off, k + 1, P, acc, hn, h => by
    rw [List.map_cons, List.foldl_cons]
    have := fold_at (l := l) (off := off + 1) (k := k) (P := P) (acc := putK acc (.inl (p.nm : Int)) (upD p.up)) (fun i q hi => by rw [hn (i + 1) q (by simpa using hi)]; omega) (by simpa using h)
    have e2 : off + 1 + k = off + (k + 1) := by omega
    rw [e2] at this
    exact this
theorem c_going_up (hn : 1 ≤ n) (F : Flat ps) (hk : (g0 :: ps)[k]? = some P) : Cn n 20 [.d (pl ps), .d (.int (k : Int))] m = .ok (.d (.list (upsOf k))) m := by
  obtain ⟨n, rfl⟩ := up1 hn
  rw [call_def (fn := f_going_up) rfl rfl]
  have hl := pl_len F
  -- the table of what is above
  let kv : List (Key × D) := ((g0 :: ps).map fun p => ((.inl (p.nm : Int) : Key), upD p.up)).foldl (fun a p => putK a p.1 p.2) []
  have q0 : evE (Cn n) (Gc csts) q_going_up_0 [some (.d (pl ps)), some (.d (.int (k : Int))), none, none, none] m = .ok (.d (.list ((g0 :: ps).map fun p => .tuple [.int p.nm, upD p.up]))) m := by
    have := comp_map (Φ := Cn n) (G := Gc csts) (env := [some (.d (pl ps)), some (.d (.int (k : Int))), none, none, none]) (m := m) (elt := .tup [.idx (.var 4) (.int 0), .idx (.var 4) (.int 1)]) (tg := .one 4) (it := .seq (.var 0)) (items := (g0 :: ps).map Pn.d) (fun d => match idxD d (.int 0), idxD d (.int 1) with | some z, some y => .tuple [z, y] | _, _ => .none) (by simp [evSs, evS, v_var, v_int, v_bl, v_non, v_str, v_glb, v_tup, v_lst, v_bop, v_neg, v_cmp, v_chn, v_isN, v_notN, v_land, v_lor, v_lnot, v_ite, v_call, v_bi, v_mth, v_idx, v_slc, v_rev, v_isi, v_lrg1, v_lrg2, evEs, evIfs, evIt, evPar, bind_ok, asB, dOf, dsOf, pureD, ofD, ofB, isNon, exitF, exitV, startE, List.length_cons, List.length_nil, List.map_cons, List.map_nil, List.cons_append, List.nil_append, List.append_nil, List.replicate, List.getElem?_cons_zero, List.getElem?_cons_succ, List.take_length, Option.map_some, Option.map_none, if_true, if_false, Bool.false_eq_true, Bool.not_true, Bool.not_false, List.any_cons, List.any_nil, Bool.or_false, isTy, List.set_cons_zero, List.set_cons_succ, setTg, wipeE, tgSlots, seqItems, biD, bopD, cmpD, List.zip_cons_cons, List.zip_nil_left, List.zip_nil_right, List.foldl_cons, List.foldl_nil, if_neg, Nat.reduceAdd, Nat.reduceSub, reduceIte, pl]) (szl (by omega)) fun x hx acc => by
      obtain ⟨p, hp, rfl⟩ := PL_mem hx
      exact ⟨_, rfl, by simp [evSs, evS, v_var, v_int, v_bl, v_non, v_str, v_glb, v_tup, v_lst, v_bop, v_neg, v_cmp, v_chn, v_isN, v_notN, v_land, v_lor, v_lnot, v_ite, v_call, v_bi, v_mth, v_idx, v_slc, v_rev, v_isi, v_lrg1, v_lrg2, evEs, evIfs, evIt, evPar, bind_ok, asB, dOf, dsOf, pureD, ofD, ofB, isNon, exitF, exitV, startE, List.length_cons, List.length_nil, List.map_cons, List.map_nil, List.cons_append, List.nil_append, List.append_nil, List.replicate, List.getElem?_cons_zero, List.getElem?_cons_succ, List.take_length, Option.map_some, Option.map_none, if_true, if_false, Bool.false_eq_true, Bool.not_true, Bool.not_false, List.any_cons, List.any_nil, Bool.or_false, isTy, List.set_cons_zero, List.set_cons_succ, setTg, wipeE, tgSlots, seqItems, biD, bopD, cmpD, List.zip_cons_cons, List.zip_nil_left, List.zip_nil_right, List.foldl_cons, List.foldl_nil, if_neg, Nat.reduceAdd, Nat.reduceSub, reduceIte, dOf_d, (pd_ix p).1, (pd_ix p).2.1]⟩
    rw [List.map_map] at this
    have e : ((fun d => match idxD d (PyData.int 0), idxD d (PyData.int 1) with | some z, some y => PyData.tuple [z, y] | _, _ => PyData.none) ∘ Pn.d) = (fun p : Pn => PyData.tuple [.int p.nm, upD p.up]) := by
      funext p
      simp only [Function.comp_apply, (pd_ix p).1, (pd_ix p).2.1]
    rw [e] at this
    exact this
  have pd : pairsOf ((g0 :: ps).map fun p => PyData.tuple [.int p.nm, upD p.up]) = some ((g0 :: ps).map fun p => ((.inl (p.nm : Int) : Key), upD p.up)) := by
    generalize g0 :: ps = l
    induction l with
    | nil => rfl
    | cons p r ih => simp only [List.map_cons, pairsOf, toKey, ih]
  have dk : biD .dict [.list ((g0 :: ps).map fun p => PyData.tuple [.int p.nm, upD p.up])] = some (dictD kv) := by
    simp only [biD, pd, Option.map_some]
    rfl
  have look : lookK kv (.inl (k : Int)) = some (upD P.up) := by
    have := fold_at (l := g0 :: ps) (off := 0) (k := k) (P := P) (acc := []) (fun i p hi => by rw [F.nm i p hi]; omega) hk
    rwa [Nat.zero_add] at this
  have look0 : lookK kv (.inl 0) = some .none := by
    have := fold_at (l := g0 :: ps) (off := 0) (k := 0) (P := g0) (acc := []) (fun i p hi => by rw [F.nm i p hi]; omega) rfl
    exact this
  have z : (∃ r, k = 0 ∧ r = [PyData.int 0] ∧ upsOf k = r) ∨ (k ≠ 0 ∧ P.up = some 0) := by
    cases k with
    | zero => exact .inl ⟨_, rfl, rfl, rfl⟩
    | succ j =>
      refine .inr ⟨by omega, ?_⟩
      have : ps[j]? = some P := by simpa using hk
      exact (F.ok P (List.mem_of_getElem? this)).2.1
  have S1 : evS (Cn n) (Gc csts) (.set 2 (.bi .dict [q_going_up_0])) [some (.d (pl ps)), some (.d (.int (k : Int))), none, none, none] m = .ok (.next [some (.d (pl ps)), some (.d (.int (k : Int))), some (.d (dictD kv)), none, none]) m := by
    simp only [evS, v_bi, evEs, q0, bind_ok, dsOf, dOf_d, dk, ofD, List.set_cons_succ, List.set_cons_zero]
  have S2 : ∀ v, evS (Cn n) (Gc csts) (.setM 3 (.lst [])) [some (.d (pl ps)), v, some (.d (dictD kv)), none, none] m = .ok (.next [some (.d (pl ps)), v, some (.d (dictD kv)), some (.loc m.length), none]) (m ++ [.lst []]) := fun v => by
    simp [evS, v_lst, evEs, pureD, ofD, thaw_l]
  have turn : ∀ (i : Int) (d : D) (acc : List D), acc.length ≤ 5 → lookK kv (.inl i) = some d → evSs (Cn n) (Gc csts) [.exp (.mth .append (.var 3) [.var 1]), .set 1 (.idx (.var 2) (.var 1))] [some (.d (pl ps)), some (.d (.int i)), some (.d (dictD kv)), some (.loc m.length), none] (m ++ [.lst acc]) =
      .ok (.next [some (.d (pl ps)), some (.d d), some (.d (dictD kv)), some (.loc m.length), none]) (m ++ [.lst (acc ++ [.int i])]) := fun i d acc ha hd => by
    have hz : acc.length < sizeLine := by rw [sizeLine_eq]; omega
    have rk : recvOk .append (.loc m.length) (m ++ [.lst acc]) = true := by simp [recvOk, dOf]
    simp [evSs, evS, v_mth, v_var, rk, evEs, pureD, mthV, hz, v_idx, dOf_d, idx_dictI, hd, ofD]
  have cond : ∀ (d : D) (mm : Store), (evE (Cn n) (Gc csts) (.notN (.var 1)) [some (.d (pl ps)), some (.d d), some (.d (dictD kv)), some (.loc m.length), none] mm).bind asB = .ok (!isNon (.d d)) mm := fun d mm => by
    simp [v_notN, v_var, asB]
  have W : evS (Cn n) (Gc csts) w_going_up_0 [some (.d (pl ps)), some (.d (.int (k : Int))), some (.d (dictD kv)), some (.loc m.length), none] (m ++ [.lst []]) = .ok (.next [some (.d (pl ps)), some (.d .none), some (.d (dictD kv)), some (.loc m.length), none]) (m ++ [.lst (upsOf k)]) := by
    obtain ⟨q, w3⟩ : ∃ q, whileN = q + 1 + 1 + 1 := ⟨99997, rfl⟩
    simp only [w_going_up_0, s_whl, w3, whileF]
    rw [cond]
    rcases z with ⟨r, hk0, rfl, hu⟩ | ⟨hk0, hu⟩
    · subst hk0
      have t1 := turn 0 .none [] (by simp) look0
      have t1' : evSs (Cn n) (Gc csts) [.exp (.mth .append (.var 3) [.var 1]), .set 1 (.idx (.var 2) (.var 1))] [some (.d (pl ps)), some (.d (.int ((0 : Nat) : Int))), some (.d (dictD kv)), some (.loc m.length), none] (m ++ [.lst []]) = _ := t1
      simp only [isNon, Bool.not_false, bind_ok, if_true, t1', cond, Bool.not_true, Bool.false_eq_true, if_false]
      rfl
    · rw [hu] at look
      have t1 := turn (k : Int) (.int 0) [] (by simp) look
      have t2 := turn 0 .none [.int (k : Int)] (by simp) look0
      simp only [isNon, Bool.not_false, bind_ok, if_true, t1, List.nil_append, cond, t2, Bool.not_true, Bool.false_eq_true, if_false]
      simp [upsOf, hk0]
  simp only [f_going_up, b_going_up, startE, List.map_cons, List.map_nil, List.length_cons, List.length_nil, List.replicate, List.cons_append, List.nil_append, Nat.reduceAdd, Nat.reduceSub, evSs, S1, S2, W, bind_ok]
  simp [evS, v_var, exitF, exitV]
end
end k19
end Kp
end

section
set_option Elab.async false
set_option linter.all false
set_option maxRecDepth 100000
set_option maxHeartbeats 2000077
namespace Kp
namespace k19
open PySem
section
variable {ps : List Pn} {n : Nat} {m : Store} {k : Nat} {P : Pn}
/-- the marks of a pane -/
def mkD (p : Pn) : D := .tuple (p.ms.map .str)
theorem no_mark {p : Pn} (h : p.ms = [] ∨ p.ms = [("stop" : Str)]) : cmpD .inn (.str "asleep") (mkD p) = some false ∧ cmpD .inn (.str "hidden") (mkD p) = some false ∧ cmpD .inn (.str "sheet") (mkD p) = some false ∧ cmpD .inn (.str "hold") (mkD p) = some false := by
  unfold mkD
  rcases h with h | h <;> rw [h] <;> refine ⟨?_, ?_, ?_, ?_⟩ <;> kernel_rfl
theorem stop_mark {p : Pn} (h : p.ms = [("stop" : Str)]) : cmpD .inn (.str "stop") (mkD p) = some true := by
  unfold mkD
  rw [h]; kernel_rfl
theorem pn_at (F : Flat ps) (hk : (g0 :: ps)[k]? = some P) : P ∈ g0 :: ps := List.mem_of_getElem? hk
theorem at0 : (g0 :: ps)[0]? = some g0 := rfl
theorem c_is_dead (hn : 2 ≤ n) (F : Flat ps) (hk : (g0 :: ps)[k]? = some P) : Cn n 23 [.d (pl ps), .d (.int (k : Int))] m = .ok (.d (.bool false)) m := by
  obtain ⟨n, rfl⟩ := up1 (by omega : 1 ≤ n)
  rw [call_def (fn := f_is_dead) rfl rfl]
  have h1 := c_the_pane (m := m) (by omega : 1 ≤ n) F hk
  obtain ⟨a1, a2, a3, a4⟩ := no_mark (in_L F (pn_at F hk)).1
  have i4 : idxD P.d (.int 4) = some (mkD P) := (pd_ix P).2.2.2.2
  simp [f_is_dead, b_is_dead, evSs, evS, v_var, v_int, v_bl, v_non, v_str, v_glb, v_tup, v_lst, v_bop, v_neg, v_cmp, v_chn, v_isN, v_notN, v_land, v_lor, v_lnot, v_ite, v_call, v_bi, v_mth, v_idx, v_slc, v_rev, v_isi, v_lrg1, v_lrg2, evEs, evIfs, evIt, evPar, bind_ok, asB, dOf, dsOf, pureD, ofD, ofB, isNon, exitF, exitV, startE, List.length_cons, List.length_nil, List.map_cons, List.map_nil, List.cons_append, List.nil_append, List.append_nil, List.replicate, List.getElem?_cons_zero, List.getElem?_cons_succ, List.take_length, Option.map_some, Option.map_none, if_true, if_false, Bool.false_eq_true, Bool.not_true, Bool.not_false, List.any_cons, List.any_nil, Bool.or_false, isTy, List.set_cons_zero, List.set_cons_succ, setTg, wipeE, tgSlots, seqItems, biD, bopD, List.zip_cons_cons, List.zip_nil_left, List.zip_nil_right, List.foldl_cons, List.foldl_nil, if_neg, Nat.reduceAdd, Nat.reduceSub, reduceIte, h1, dOf_d, i4, a1, a2]
theorem ups_at (F : Flat ps) (hk : (g0 :: ps)[k]? = some P) {x : D} (hx : x ∈ upsOf k) : ∃ (j : Nat) (Q : Pn), x = .int (j : Int) ∧ (g0 :: ps)[j]? = some Q := by
  unfold upsOf at hx
  split at hx
  · have : x = .int 0 := by simpa using hx
    exact ⟨0, g0, this, rfl⟩
  · rcases (by simpa using hx : x = .int (k : Int) ∨ x = .int 0) with rfl | rfl
    · exact ⟨k, P, rfl, hk⟩
    · exact ⟨0, g0, rfl, rfl⟩
theorem ups_len : (upsOf k).length ≤ 2 := by unfold upsOf; split <;> simp
theorem nil_eq : cmpD .eq (.list []) (.list []) = some true := by decide
theorem c_alive (hn : 3 ≤ n) (F : Flat ps) (hk : (g0 :: ps)[k]? = some P) : Cn n 24 [.d (pl ps), .d (.int (k : Int))] m = .ok (.d (.bool true)) m := by
  obtain ⟨n, rfl⟩ := up1 (by omega : 1 ≤ n)
  rw [call_def (fn := f_alive) rfl rfl]
  have h1 := c_going_up (m := m) (by omega : 1 ≤ n) F hk
  have q0 : evE (Cn n) (Gc csts) q_alive_0 [some (.d (pl ps)), some (.d (.int (k : Int))), none] m = .ok (.d (.list [])) m := by
    have := comp_if (Φ := Cn n) (G := Gc csts) (env := [some (.d (pl ps)), some (.d (.int (k : Int))), none]) (m := m) (elt := .var 2) (c := .call 23 [.var 0, .var 2]) (tg := .one 2) (it := .seq (.call 20 [.var 0, .var 1])) (items := upsOf k) (fun _ => false) id (by simp [evSs, evS, v_var, v_int, v_bl, v_non, v_str, v_glb, v_tup, v_lst, v_bop, v_neg, v_cmp, v_chn, v_isN, v_notN, v_land, v_lor, v_lnot, v_ite, v_call, v_bi, v_mth, v_idx, v_slc, v_rev, v_isi, v_lrg1, v_lrg2, evEs, evIfs, evIt, evPar, bind_ok, asB, dOf, dsOf, pureD, ofD, ofB, isNon, exitF, exitV, startE, List.length_cons, List.length_nil, List.map_cons, List.map_nil, List.cons_append, List.nil_append, List.append_nil, List.replicate, List.getElem?_cons_zero, List.getElem?_cons_succ, List.take_length, Option.map_some, Option.map_none, if_true, if_false, Bool.false_eq_true, Bool.not_true, Bool.not_false, List.any_cons, List.any_nil, Bool.or_false, isTy, List.set_cons_zero, List.set_cons_succ, setTg, wipeE, tgSlots, seqItems, biD, bopD, cmpD, List.zip_cons_cons, List.zip_nil_left, List.zip_nil_right, List.foldl_cons, List.foldl_nil, if_neg, Nat.reduceAdd, Nat.reduceSub, reduceIte, h1]) (szl (Nat.le_trans ups_len (by omega))) fun x hx acc => by
      obtain ⟨j, Q, rfl, hj⟩ := ups_at F hk hx
      exact ⟨_, rfl, by simp [evSs, evS, v_var, v_int, v_bl, v_non, v_str, v_glb, v_tup, v_lst, v_bop, v_neg, v_cmp, v_chn, v_isN, v_notN, v_land, v_lor, v_lnot, v_ite, v_call, v_bi, v_mth, v_idx, v_slc, v_rev, v_isi, v_lrg1, v_lrg2, evEs, evIfs, evIt, evPar, bind_ok, asB, dOf, dsOf, pureD, ofD, ofB, isNon, exitF, exitV, startE, List.length_cons, List.length_nil, List.map_cons, List.map_nil, List.cons_append, List.nil_append, List.append_nil, List.replicate, List.getElem?_cons_zero, List.getElem?_cons_succ, List.take_length, Option.map_some, Option.map_none, if_true, if_false, Bool.false_eq_true, Bool.not_true, Bool.not_false, List.any_cons, List.any_nil, Bool.or_false, isTy, List.set_cons_zero, List.set_cons_succ, setTg, wipeE, tgSlots, seqItems, biD, bopD, cmpD, List.zip_cons_cons, List.zip_nil_left, List.zip_nil_right, List.foldl_cons, List.foldl_nil, if_neg, Nat.reduceAdd, Nat.reduceSub, reduceIte, c_is_dead (by omega : 2 ≤ n) F hj], fun h => by cases h⟩
    rw [filt_no] at this
    exact this
  simp [f_alive, b_alive, evSs, evS, v_var, v_int, v_bl, v_non, v_str, v_glb, v_tup, v_lst, v_bop, v_neg, v_cmp, v_chn, v_isN, v_notN, v_land, v_lor, v_lnot, v_ite, v_call, v_bi, v_mth, v_idx, v_slc, v_rev, v_isi, v_lrg1, v_lrg2, evEs, evIfs, evIt, evPar, bind_ok, asB, dOf, dsOf, pureD, ofD, ofB, isNon, exitF, exitV, startE, List.length_cons, List.length_nil, List.map_cons, List.map_nil, List.cons_append, List.nil_append, List.append_nil, List.replicate, List.getElem?_cons_zero, List.getElem?_cons_succ, List.take_length, Option.map_some, Option.map_none, if_true, if_false, Bool.false_eq_true, Bool.not_true, Bool.not_false, List.any_cons, List.any_nil, Bool.or_false, isTy, List.set_cons_zero, List.set_cons_succ, setTg, wipeE, tgSlots, seqItems, biD, bopD, List.zip_cons_cons, List.zip_nil_left, List.zip_nil_right, List.foldl_cons, List.foldl_nil, if_neg, Nat.reduceAdd, Nat.reduceSub, reduceIte, q0, dOf_d, nil_eq]
theorem c_top_sheet (hn : 4 ≤ n) (F : Flat ps) : Cn n 25 [.d (pl ps)] m = .ok (.d (.int 0)) m := by
  obtain ⟨n, rfl⟩ := up1 (by omega : 1 ≤ n)
  rw [call_def (fn := f_top_sheet) rfl rfl]
  have hl := pl_len F
  have q0 : evE (Cn n) (Gc csts) q_top_sheet_0 [some (.d (pl ps)), none] m = .ok (.d (.list [])) m := by
    have := comp_if (Φ := Cn n) (G := Gc csts) (env := [some (.d (pl ps)), none]) (m := m) (elt := .idx (.var 1) (.int 0)) (c := .land (.cmp .inn (.str "sheet") (.idx (.var 1) (.int 4))) (.call 24 [.var 0, .idx (.var 1) (.int 0)])) (tg := .one 1) (it := .seq (.var 0)) (items := (g0 :: ps).map Pn.d) (fun _ => false) id (by simp [evSs, evS, v_var, v_int, v_bl, v_non, v_str, v_glb, v_tup, v_lst, v_bop, v_neg, v_cmp, v_chn, v_isN, v_notN, v_land, v_lor, v_lnot, v_ite, v_call, v_bi, v_mth, v_idx, v_slc, v_rev, v_isi, v_lrg1, v_lrg2, evEs, evIfs, evIt, evPar, bind_ok, asB, dOf, dsOf, pureD, ofD, ofB, isNon, exitF, exitV, startE, List.length_cons, List.length_nil, List.map_cons, List.map_nil, List.cons_append, List.nil_append, List.append_nil, List.replicate, List.getElem?_cons_zero, List.getElem?_cons_succ, List.take_length, Option.map_some, Option.map_none, if_true, if_false, Bool.false_eq_true, Bool.not_true, Bool.not_false, List.any_cons, List.any_nil, Bool.or_false, isTy, List.set_cons_zero, List.set_cons_succ, setTg, wipeE, tgSlots, seqItems, biD, bopD, cmpD, List.zip_cons_cons, List.zip_nil_left, List.zip_nil_right, List.foldl_cons, List.foldl_nil, if_neg, Nat.reduceAdd, Nat.reduceSub, reduceIte, pl]) (szl (by omega)) fun x hx acc => by
      obtain ⟨p, hp, rfl⟩ := PL_mem hx
      obtain ⟨a1, a2, a3, a4⟩ := no_mark (in_L F hp).1
      have i4 : idxD p.d (.int 4) = some (mkD p) := (pd_ix p).2.2.2.2
      exact ⟨_, rfl, by simp [evSs, evS, v_var, v_int, v_bl, v_non, v_str, v_glb, v_tup, v_lst, v_bop, v_neg, v_cmp, v_chn, v_isN, v_notN, v_land, v_lor, v_lnot, v_ite, v_call, v_bi, v_mth, v_idx, v_slc, v_rev, v_isi, v_lrg1, v_lrg2, evEs, evIfs, evIt, evPar, bind_ok, asB, dOf, dsOf, pureD, ofD, ofB, isNon, exitF, exitV, startE, List.length_cons, List.length_nil, List.map_cons, List.map_nil, List.cons_append, List.nil_append, List.append_nil, List.replicate, List.getElem?_cons_zero, List.getElem?_cons_succ, List.take_length, Option.map_some, Option.map_none, if_true, if_false, Bool.false_eq_true, Bool.not_true, Bool.not_false, List.any_cons, List.any_nil, Bool.or_false, isTy, List.set_cons_zero, List.set_cons_succ, setTg, wipeE, tgSlots, seqItems, biD, bopD, List.zip_cons_cons, List.zip_nil_left, List.zip_nil_right, List.foldl_cons, List.foldl_nil, if_neg, Nat.reduceAdd, Nat.reduceSub, reduceIte, dOf_d, i4, a3], fun h => by cases h⟩
    rw [filt_no] at this
    exact this
  have s1 : 1 ≤ sizeLine := szl (by omega)
  simp [f_top_sheet, b_top_sheet, evSs, evS, v_var, v_int, v_bl, v_non, v_str, v_glb, v_tup, v_lst, v_bop, v_neg, v_cmp, v_chn, v_isN, v_notN, v_land, v_lor, v_lnot, v_ite, v_call, v_bi, v_mth, v_idx, v_slc, v_rev, v_isi, v_lrg1, v_lrg2, evEs, evIfs, evIt, evPar, bind_ok, asB, dOf, dsOf, pureD, ofD, ofB, isNon, exitF, exitV, startE, List.length_cons, List.length_nil, List.map_cons, List.map_nil, List.cons_append, List.nil_append, List.append_nil, List.replicate, List.getElem?_cons_zero, List.getElem?_cons_succ, List.take_length, Option.map_some, Option.map_none, if_true, if_false, Bool.false_eq_true, Bool.not_true, Bool.not_false, List.any_cons, List.any_nil, Bool.or_false, isTy, List.set_cons_zero, List.set_cons_succ, setTg, wipeE, tgSlots, seqItems, biD, bopD, cmpD, List.zip_cons_cons, List.zip_nil_left, List.zip_nil_right, List.foldl_cons, List.foldl_nil, if_neg, Nat.reduceAdd, Nat.reduceSub, reduceIte, q0, intsOf, maxI, s1]
theorem c_opens (hn : 5 ≤ n) (F : Flat ps) (hk : (g0 :: ps)[k]? = some P) : Cn n 26 [.d (pl ps), .d (.int (k : Int))] m = .ok (.d (.bool true)) m := by
  obtain ⟨n, rfl⟩ := up1 (by omega : 1 ≤ n)
  rw [call_def (fn := f_opens) rfl rfl]
  have h1 := c_going_up (m := m) (by omega : 1 ≤ n) F hk
  have h2 := c_alive (m := m) (by omega : 3 ≤ n) F hk
  have h3 := c_top_sheet (m := m) (by omega : 4 ≤ n) F
  have h4 : cmpD .inn (.int 0) (.list (upsOf k)) = some true := by
    unfold upsOf
    split <;> simp [cmpD, inD, scalD, PyData.eqv]
  simp [f_opens, b_opens, evSs, evS, v_var, v_int, v_bl, v_non, v_str, v_glb, v_tup, v_lst, v_bop, v_neg, v_cmp, v_chn, v_isN, v_notN, v_land, v_lor, v_lnot, v_ite, v_call, v_bi, v_mth, v_idx, v_slc, v_rev, v_isi, v_lrg1, v_lrg2, evEs, evIfs, evIt, evPar, bind_ok, asB, dOf, dsOf, pureD, ofD, ofB, isNon, exitF, exitV, startE, List.length_cons, List.length_nil, List.map_cons, List.map_nil, List.cons_append, List.nil_append, List.append_nil, List.replicate, List.getElem?_cons_zero, List.getElem?_cons_succ, List.take_length, Option.map_some, Option.map_none, if_true, if_false, Bool.false_eq_true, Bool.not_true, Bool.not_false, List.any_cons, List.any_nil, Bool.or_false, isTy, List.set_cons_zero, List.set_cons_succ, setTg, wipeE, tgSlots, seqItems, biD, bopD, List.zip_cons_cons, List.zip_nil_left, List.zip_nil_right, List.foldl_cons, List.foldl_nil, if_neg, Nat.reduceAdd, Nat.reduceSub, reduceIte, h1, h2, h3, dOf_d, h4]
theorem c_takes_keys (hn : 6 ≤ n) (F : Flat ps) (hk : (g0 :: ps)[k + 1]? = some P) : Cn n 27 [.d (pl ps), .d (.int ((k + 1 : Nat) : Int))] m = .ok (.d (.bool true)) m := by
  obtain ⟨n, rfl⟩ := up1 (by omega : 1 ≤ n)
  rw [call_def (fn := f_takes_keys) rfl rfl]
  have h1 := c_the_pane (m := m) (by omega : 1 ≤ n) F hk
  have h2 := c_opens (m := m) (by omega : 5 ≤ n) F hk
  have hp : P ∈ ps := List.mem_of_getElem? (i := k) (by simpa using hk)
  have i4 : idxD P.d (.int 4) = some (mkD P) := (pd_ix P).2.2.2.2
  have st := stop_mark (F.ok P hp).2.2
  generalize ((k + 1 : Nat) : Int) = K at *
  simp [f_takes_keys, b_takes_keys, evSs, evS, v_var, v_int, v_bl, v_non, v_str, v_glb, v_tup, v_lst, v_bop, v_neg, v_cmp, v_chn, v_isN, v_notN, v_land, v_lor, v_lnot, v_ite, v_call, v_bi, v_mth, v_idx, v_slc, v_rev, v_isi, v_lrg1, v_lrg2, evEs, evIfs, evIt, evPar, bind_ok, asB, dOf, dsOf, pureD, ofD, ofB, isNon, exitF, exitV, startE, List.length_cons, List.length_nil, List.map_cons, List.map_nil, List.cons_append, List.nil_append, List.append_nil, List.replicate, List.getElem?_cons_zero, List.getElem?_cons_succ, List.take_length, Option.map_some, Option.map_none, if_true, if_false, Bool.false_eq_true, Bool.not_true, Bool.not_false, List.any_cons, List.any_nil, Bool.or_false, isTy, List.set_cons_zero, List.set_cons_succ, setTg, wipeE, tgSlots, seqItems, biD, bopD, List.zip_cons_cons, List.zip_nil_left, List.zip_nil_right, List.foldl_cons, List.foldl_nil, if_neg, Nat.reduceAdd, Nat.reduceSub, reduceIte, h1, h2, dOf_d, i4, st]
theorem c_see_hold (hn : 7 ≤ n) (F : Flat ps) (hk : (g0 :: ps)[k + 1]? = some P) : Cn n 32 [.d (pl ps), .d (.int ((k + 1 : Nat) : Int))] m = .ok (.d .none) m := by
  obtain ⟨n, rfl⟩ := up1 (by omega : 1 ≤ n)
  rw [call_def (fn := f_see_hold) rfl rfl]
  have h1 := c_takes_keys (m := m) (by omega : 6 ≤ n) F hk
  generalize ((k + 1 : Nat) : Int) = K at *
  simp [f_see_hold, b_see_hold, evSs, evS, v_var, v_int, v_bl, v_non, v_str, v_glb, v_tup, v_lst, v_bop, v_neg, v_cmp, v_chn, v_isN, v_notN, v_land, v_lor, v_lnot, v_ite, v_call, v_bi, v_mth, v_idx, v_slc, v_rev, v_isi, v_lrg1, v_lrg2, evEs, evIfs, evIt, evPar, bind_ok, asB, dOf, dsOf, pureD, ofD, ofB, isNon, exitF, exitV, startE, List.length_cons, List.length_nil, List.map_cons, List.map_nil, List.cons_append, List.nil_append, List.append_nil, List.replicate, List.getElem?_cons_zero, List.getElem?_cons_succ, List.take_length, Option.map_some, Option.map_none, if_true, if_false, Bool.false_eq_true, Bool.not_true, Bool.not_false, List.any_cons, List.any_nil, Bool.or_false, isTy, List.set_cons_zero, List.set_cons_succ, setTg, wipeE, tgSlots, seqItems, biD, bopD, cmpD, List.zip_cons_cons, List.zip_nil_left, List.zip_nil_right, List.foldl_cons, List.foldl_nil, if_neg, Nat.reduceAdd, Nat.reduceSub, reduceIte, h1]
theorem bx_ix (p : Pn) : idxD p.box (.int 0) = some (.int p.x) ∧ idxD p.box (.int 1) = some (.int p.y) ∧ idxD p.box (.int 2) = some (.int p.w) ∧ idxD p.box (.int 3) = some (.int p.h) := by
  refine ⟨?_, ?_, ?_, ?_⟩ <;> simp [Pn.box, idxD, L2.atI, L2.ixN]
theorem c_placed (hn : 2 ≤ n) (F : Flat ps) (hk : (g0 :: ps)[k]? = some P) : Cn n 28 [.d (pl ps), .d (.int (k : Int))] m = .ok (.d P.box) m := by
  obtain ⟨n, rfl⟩ := up1 (by omega : 1 ≤ n)
  rw [call_def (fn := f_placed) rfl rfl]
  have h1 := c_going_up (m := m) (by omega : 1 ≤ n) F hk
  have h2 := c_the_pane (m := m) (by omega : 1 ≤ n) F hk
  have h0 : Cn n 19 [.d (pl ps), .d (.int 0)] m = .ok (.d g0.d) m := c_the_pane (k := 0) (m := m) (by omega : 1 ≤ n) F rfl
  have i2 : idxD P.d (.int 2) = some P.box := (pd_ix P).2.2.1
  have j2 : idxD g0.d (.int 2) = some g0.box := (pd_ix g0).2.2.1
  obtain ⟨b0, b1, b2, b3⟩ := bx_ix P
  obtain ⟨d0, d1, d2, d3⟩ := bx_ix g0
  have loop : ∃ env', evS (Cn n) (Gc csts) l_placed_0 [some (.d (pl ps)), some (.d (.int (k : Int))), some (.d (.int 0)), some (.d (.int 0)), none, none, none] m = .ok (.next env') m ∧ ∃ a b, env' = [some (.d (pl ps)), some (.d (.int (k : Int))), some (.d (.int P.x)), some (.d (.int P.y)), a, none, b] := by
    have step : ∀ (j : Int) (Q : Pn) (l t : Int) a b, Cn n 19 [.d (pl ps), .d (.int j)] m = .ok (.d Q.d) m → bodyF (Cn n) (Gc csts) (.one 4) [.set 6 (.idx (.call 19 [.var 0, .var 4]) (.int 2)), .set 2 (.bop .add (.var 2) (.idx (.var 6) (.int 0))), .set 3 (.bop .add (.var 3) (.idx (.var 6) (.int 1)))] (.int j) [some (.d (pl ps)), some (.d (.int (k : Int))), some (.d (.int l)), some (.d (.int t)), a, none, b] m = .ok (.next [some (.d (pl ps)), some (.d (.int (k : Int))), some (.d (.int (l + Q.x))), some (.d (.int (t + Q.y))), some (.d (.int j)), none, some (.d Q.box)]) m := by
      intro j Q l t a b e1
      obtain ⟨c0, c1, c2, c3⟩ := bx_ix Q
      rw [body_ok rfl]
      simp [evSs, evS, v_var, v_int, v_bl, v_non, v_str, v_glb, v_tup, v_lst, v_bop, v_neg, v_cmp, v_chn, v_isN, v_notN, v_land, v_lor, v_lnot, v_ite, v_call, v_bi, v_mth, v_idx, v_slc, v_rev, v_isi, v_lrg1, v_lrg2, evEs, evIfs, evIt, evPar, bind_ok, asB, dOf, dsOf, pureD, ofD, ofB, isNon, exitF, exitV, startE, List.length_cons, List.length_nil, List.map_cons, List.map_nil, List.cons_append, List.nil_append, List.append_nil, List.replicate, List.getElem?_cons_zero, List.getElem?_cons_succ, List.take_length, Option.map_some, Option.map_none, if_true, if_false, Bool.false_eq_true, Bool.not_true, Bool.not_false, List.any_cons, List.any_nil, Bool.or_false, isTy, List.set_cons_zero, List.set_cons_succ, setTg, wipeE, tgSlots, seqItems, biD, bopD, cmpD, List.zip_cons_cons, List.zip_nil_left, List.zip_nil_right, List.foldl_cons, List.foldl_nil, if_neg, Nat.reduceAdd, Nat.reduceSub, reduceIte, e1, dOf_d, (pd_ix Q).2.2.1, c0, c1]
    by_cases h : k = 0
    · have : P = g0 := by subst h; simpa using hk.symm
      subst this
      have s1 := step 0 g0 0 0 none none h0
      refine ⟨_, ?_, some (.d (.int 0)), some (.d g0.box), rfl⟩
      simp only [l_placed_0, s_for, evIt, v_call, evEs, v_var, List.getElem?_cons_zero, List.getElem?_cons_succ, bind_ok, h1, seqItems, upsOf, if_pos h]
      simp only [forF]
      rw [s1]
      simp [g0]
    · have s1 := step k P 0 0 none none h2
      have s2 := step 0 g0 (0 + P.x) (0 + P.y) (some (.d (.int (k : Int)))) (some (.d P.box)) h0
      refine ⟨_, ?_, some (.d (.int 0)), some (.d g0.box), rfl⟩
      simp only [l_placed_0, s_for, evIt, v_call, evEs, v_var, List.getElem?_cons_zero, List.getElem?_cons_succ, bind_ok, h1, seqItems, upsOf, if_neg h]
      simp only [forF]
      rw [s1]
      simp only [bind_ok]
      rw [s2]
      simp [g0]
  obtain ⟨env', lo, a, b, rfl⟩ := loop
  simp only [f_placed, b_placed, startE, List.map_cons, List.map_nil, List.length_cons, List.length_nil, List.replicate, List.cons_append, List.nil_append, Nat.reduceAdd, Nat.reduceSub]
  simp only [evSs, evS, v_int, bind_ok, List.set_cons_zero, List.set_cons_succ]
  have lo' : evS (Cn n) (Gc csts) l_placed_0 [some (.d (pl ps)), some (.d (.int (k : Int))), some (.d (.int 0)), some (.d (.int 0)), none, none, none] m = _ := lo
  rw [lo']
  simp [evSs, evS, v_var, v_int, v_bl, v_non, v_str, v_glb, v_tup, v_lst, v_bop, v_neg, v_cmp, v_chn, v_isN, v_notN, v_land, v_lor, v_lnot, v_ite, v_call, v_bi, v_mth, v_idx, v_slc, v_rev, v_isi, v_lrg1, v_lrg2, evEs, evIfs, evIt, evPar, bind_ok, asB, dOf, dsOf, pureD, ofD, ofB, isNon, exitF, exitV, startE, List.length_cons, List.length_nil, List.map_cons, List.map_nil, List.cons_append, List.nil_append, List.append_nil, List.replicate, List.getElem?_cons_zero, List.getElem?_cons_succ, List.take_length, Option.map_some, Option.map_none, if_true, if_false, Bool.false_eq_true, Bool.not_true, Bool.not_false, List.any_cons, List.any_nil, Bool.or_false, isTy, List.set_cons_zero, List.set_cons_succ, setTg, wipeE, tgSlots, seqItems, biD, bopD, cmpD, List.zip_cons_cons, List.zip_nil_left, List.zip_nil_right, List.foldl_cons, List.foldl_nil, if_neg, Nat.reduceAdd, Nat.reduceSub, reduceIte, h2, dOf_d, i2, b2, b3, exitF, exitV]
  rfl
/-- what is seen of a pane: left, top, how wide, how high -/
structure Bx where
  l : Int
  t : Int
  w : Int
  h : Int
def Bx.d (b : Bx) : D := .tuple [.int b.l, .int b.t, .int b.w, .int b.h]
def seenT (p : Pn) : Option Bx :=
  if min (p.x + p.w) 60 ≤ max p.x 0 ∨ min (p.y + p.h) 60 ≤ max p.y 0 then none else some ⟨max p.x 0, max p.y 0, min (p.x + p.w) 60 - max p.x 0, min (p.y + p.h) 60 - max p.y 0⟩
def seenD (p : Pn) : D := match seenT p with
  | none => .none
  | some b => b.d
theorem c_seen_in (hn : 3 ≤ n) (F : Flat ps) (hk : (g0 :: ps)[k + 1]? = some P) : Cn n 29 [.d (pl ps), .d (.int ((k + 1 : Nat) : Int))] m = .ok (.d (seenD P)) m := by
  obtain ⟨n, rfl⟩ := up1 (by omega : 1 ≤ n)
  rw [call_def (fn := f_seen_in) rfl rfl]
  have h1 := c_going_up (m := m) (by omega : 1 ≤ n) F hk
  have hu : upsOf (k + 1) = [.int ((k + 1 : Nat) : Int), .int 0] := by simp [upsOf]
  rw [hu] at h1
  have pl1 : ∀ m, Cn n 28 [.d (pl ps), .d (.int ((k + 1 : Nat) : Int))] m = .ok (.d P.box) m := fun m => c_placed (m := m) (by omega : 2 ≤ n) F hk
  have pl0 : ∀ m, Cn n 28 [.d (pl ps), .d (.int 0)] m = .ok (.d g0.box) m := fun m => c_placed (k := 0) (m := m) (by omega : 2 ≤ n) F rfl
  generalize ((k + 1 : Nat) : Int) = K at *
  have q0 : evE (Cn n) (Gc csts) q_seen_in_0 [some (.d (pl ps)), some (.d (.int K)), none, none, none, none, none, none, none] m = .ok (.d (.list [P.box, g0.box])) m :=
    comp_two (items := [.int K, .int 0]) (by simp [evSs, evS, v_var, v_int, v_bl, v_non, v_str, v_glb, v_tup, v_lst, v_bop, v_neg, v_cmp, v_chn, v_isN, v_notN, v_land, v_lor, v_lnot, v_ite, v_call, v_bi, v_mth, v_idx, v_slc, v_rev, v_isi, v_lrg1, v_lrg2, evEs, evIfs, evIt, evPar, bind_ok, asB, dOf, dsOf, pureD, ofD, ofB, isNon, exitF, exitV, startE, List.length_cons, List.length_nil, List.map_cons, List.map_nil, List.cons_append, List.nil_append, List.append_nil, List.replicate, List.getElem?_cons_zero, List.getElem?_cons_succ, List.take_length, Option.map_some, Option.map_none, if_true, if_false, Bool.false_eq_true, Bool.not_true, Bool.not_false, List.any_cons, List.any_nil, Bool.or_false, isTy, List.set_cons_zero, List.set_cons_succ, setTg, wipeE, tgSlots, seqItems, biD, bopD, cmpD, List.zip_cons_cons, List.zip_nil_left, List.zip_nil_right, List.foldl_cons, List.foldl_nil, if_neg, Nat.reduceAdd, Nat.reduceSub, reduceIte, h1]) (szl (by simp)) (.cons (fun acc => ⟨_, rfl, by simp [evSs, evS, v_var, v_int, v_bl, v_non, v_str, v_glb, v_tup, v_lst, v_bop, v_neg, v_cmp, v_chn, v_isN, v_notN, v_land, v_lor, v_lnot, v_ite, v_call, v_bi, v_mth, v_idx, v_slc, v_rev, v_isi, v_lrg1, v_lrg2, evEs, evIfs, evIt, evPar, bind_ok, asB, dOf, dsOf, pureD, ofD, ofB, isNon, exitF, exitV, startE, List.length_cons, List.length_nil, List.map_cons, List.map_nil, List.cons_append, List.nil_append, List.append_nil, List.replicate, List.getElem?_cons_zero, List.getElem?_cons_succ, List.take_length, Option.map_some, Option.map_none, if_true, if_false, Bool.false_eq_true, Bool.not_true, Bool.not_false, List.any_cons, List.any_nil, Bool.or_false, isTy, List.set_cons_zero, List.set_cons_succ, setTg, wipeE, tgSlots, seqItems, biD, bopD, cmpD, List.zip_cons_cons, List.zip_nil_left, List.zip_nil_right, List.foldl_cons, List.foldl_nil, if_neg, Nat.reduceAdd, Nat.reduceSub, reduceIte, pl1]⟩) (.cons (fun acc => ⟨_, rfl, by simp [evSs, evS, v_var, v_int, v_bl, v_non, v_str, v_glb, v_tup, v_lst, v_bop, v_neg, v_cmp, v_chn, v_isN, v_notN, v_land, v_lor, v_lnot, v_ite, v_call, v_bi, v_mth, v_idx, v_slc, v_rev, v_isi, v_lrg1, v_lrg2, evEs, evIfs, evIt, evPar, bind_ok, asB, dOf, dsOf, pureD, ofD, ofB, isNon, exitF, exitV, startE, List.length_cons, List.length_nil, List.map_cons, List.map_nil, List.cons_append, List.nil_append, List.append_nil, List.replicate, List.getElem?_cons_zero, List.getElem?_cons_succ, List.take_length, Option.map_some, Option.map_none, if_true, if_false, Bool.false_eq_true, Bool.not_true, Bool.not_false, List.any_cons, List.any_nil, Bool.or_false, isTy, List.set_cons_zero, List.set_cons_succ, setTg, wipeE, tgSlots, seqItems, biD, bopD, cmpD, List.zip_cons_cons, List.zip_nil_left, List.zip_nil_right, List.foldl_cons, List.foldl_nil, if_neg, Nat.reduceAdd, Nat.reduceSub, reduceIte, pl0]⟩) .nil))
  obtain ⟨b0, b1, b2, b3⟩ := bx_ix P
  have d0 : idxD g0.box (.int 0) = some (.int 0) := (bx_ix g0).1
  have d1 : idxD g0.box (.int 1) = some (.int 0) := (bx_ix g0).2.1
  have d2 : idxD g0.box (.int 2) = some (.int 60) := (bx_ix g0).2.2.1
  have d3 : idxD g0.box (.int 3) = some (.int 60) := (bx_ix g0).2.2.2
  have q1 : ∀ a b c d, evE (Cn n) (Gc csts) q_seen_in_1 [some (.d (pl ps)), some (.d (.int K)), some (.d (.list [P.box, g0.box])), a, b, c, d, none, none] m = .ok (.d (.list [.int P.x, .int 0])) m := fun a b c d =>
    comp_two (items := [P.box, g0.box]) (by simp [evSs, evS, v_var, v_int, v_bl, v_non, v_str, v_glb, v_tup, v_lst, v_bop, v_neg, v_cmp, v_chn, v_isN, v_notN, v_land, v_lor, v_lnot, v_ite, v_call, v_bi, v_mth, v_idx, v_slc, v_rev, v_isi, v_lrg1, v_lrg2, evEs, evIfs, evIt, evPar, bind_ok, asB, dOf, dsOf, pureD, ofD, ofB, isNon, exitF, exitV, startE, List.length_cons, List.length_nil, List.map_cons, List.map_nil, List.cons_append, List.nil_append, List.append_nil, List.replicate, List.getElem?_cons_zero, List.getElem?_cons_succ, List.take_length, Option.map_some, Option.map_none, if_true, if_false, Bool.false_eq_true, Bool.not_true, Bool.not_false, List.any_cons, List.any_nil, Bool.or_false, isTy, List.set_cons_zero, List.set_cons_succ, setTg, wipeE, tgSlots, seqItems, biD, bopD, cmpD, List.zip_cons_cons, List.zip_nil_left, List.zip_nil_right, List.foldl_cons, List.foldl_nil, if_neg, Nat.reduceAdd, Nat.reduceSub, reduceIte]) (szl (by simp)) (.cons (fun acc => ⟨_, rfl, by simp [evSs, evS, v_var, v_int, v_bl, v_non, v_str, v_glb, v_tup, v_lst, v_bop, v_neg, v_cmp, v_chn, v_isN, v_notN, v_land, v_lor, v_lnot, v_ite, v_call, v_bi, v_mth, v_idx, v_slc, v_rev, v_isi, v_lrg1, v_lrg2, evEs, evIfs, evIt, evPar, bind_ok, asB, dOf, dsOf, pureD, ofD, ofB, isNon, exitF, exitV, startE, List.length_cons, List.length_nil, List.map_cons, List.map_nil, List.cons_append, List.nil_append, List.append_nil, List.replicate, List.getElem?_cons_zero, List.getElem?_cons_succ, List.take_length, Option.map_some, Option.map_none, if_true, if_false, Bool.false_eq_true, Bool.not_true, Bool.not_false, List.any_cons, List.any_nil, Bool.or_false, isTy, List.set_cons_zero, List.set_cons_succ, setTg, wipeE, tgSlots, seqItems, biD, bopD, cmpD, List.zip_cons_cons, List.zip_nil_left, List.zip_nil_right, List.foldl_cons, List.foldl_nil, if_neg, Nat.reduceAdd, Nat.reduceSub, reduceIte, dOf_d, b0]⟩) (.cons (fun acc => ⟨_, rfl, by simp [evSs, evS, v_var, v_int, v_bl, v_non, v_str, v_glb, v_tup, v_lst, v_bop, v_neg, v_cmp, v_chn, v_isN, v_notN, v_land, v_lor, v_lnot, v_ite, v_call, v_bi, v_mth, v_idx, v_slc, v_rev, v_isi, v_lrg1, v_lrg2, evEs, evIfs, evIt, evPar, bind_ok, asB, dOf, dsOf, pureD, ofD, ofB, isNon, exitF, exitV, startE, List.length_cons, List.length_nil, List.map_cons, List.map_nil, List.cons_append, List.nil_append, List.append_nil, List.replicate, List.getElem?_cons_zero, List.getElem?_cons_succ, List.take_length, Option.map_some, Option.map_none, if_true, if_false, Bool.false_eq_true, Bool.not_true, Bool.not_false, List.any_cons, List.any_nil, Bool.or_false, isTy, List.set_cons_zero, List.set_cons_succ, setTg, wipeE, tgSlots, seqItems, biD, bopD, cmpD, List.zip_cons_cons, List.zip_nil_left, List.zip_nil_right, List.foldl_cons, List.foldl_nil, if_neg, Nat.reduceAdd, Nat.reduceSub, reduceIte, dOf_d, d0]⟩) .nil))
  have q2 : ∀ a b c d, evE (Cn n) (Gc csts) q_seen_in_2 [some (.d (pl ps)), some (.d (.int K)), some (.d (.list [P.box, g0.box])), a, b, c, d, none, none] m = .ok (.d (.list [.int P.y, .int 0])) m := fun a b c d =>
    comp_two (items := [P.box, g0.box]) (by simp [evSs, evS, v_var, v_int, v_bl, v_non, v_str, v_glb, v_tup, v_lst, v_bop, v_neg, v_cmp, v_chn, v_isN, v_notN, v_land, v_lor, v_lnot, v_ite, v_call, v_bi, v_mth, v_idx, v_slc, v_rev, v_isi, v_lrg1, v_lrg2, evEs, evIfs, evIt, evPar, bind_ok, asB, dOf, dsOf, pureD, ofD, ofB, isNon, exitF, exitV, startE, List.length_cons, List.length_nil, List.map_cons, List.map_nil, List.cons_append, List.nil_append, List.append_nil, List.replicate, List.getElem?_cons_zero, List.getElem?_cons_succ, List.take_length, Option.map_some, Option.map_none, if_true, if_false, Bool.false_eq_true, Bool.not_true, Bool.not_false, List.any_cons, List.any_nil, Bool.or_false, isTy, List.set_cons_zero, List.set_cons_succ, setTg, wipeE, tgSlots, seqItems, biD, bopD, cmpD, List.zip_cons_cons, List.zip_nil_left, List.zip_nil_right, List.foldl_cons, List.foldl_nil, if_neg, Nat.reduceAdd, Nat.reduceSub, reduceIte]) (szl (by simp)) (.cons (fun acc => ⟨_, rfl, by simp [evSs, evS, v_var, v_int, v_bl, v_non, v_str, v_glb, v_tup, v_lst, v_bop, v_neg, v_cmp, v_chn, v_isN, v_notN, v_land, v_lor, v_lnot, v_ite, v_call, v_bi, v_mth, v_idx, v_slc, v_rev, v_isi, v_lrg1, v_lrg2, evEs, evIfs, evIt, evPar, bind_ok, asB, dOf, dsOf, pureD, ofD, ofB, isNon, exitF, exitV, startE, List.length_cons, List.length_nil, List.map_cons, List.map_nil, List.cons_append, List.nil_append, List.append_nil, List.replicate, List.getElem?_cons_zero, List.getElem?_cons_succ, List.take_length, Option.map_some, Option.map_none, if_true, if_false, Bool.false_eq_true, Bool.not_true, Bool.not_false, List.any_cons, List.any_nil, Bool.or_false, isTy, List.set_cons_zero, List.set_cons_succ, setTg, wipeE, tgSlots, seqItems, biD, bopD, cmpD, List.zip_cons_cons, List.zip_nil_left, List.zip_nil_right, List.foldl_cons, List.foldl_nil, if_neg, Nat.reduceAdd, Nat.reduceSub, reduceIte, dOf_d, b1]⟩) (.cons (fun acc => ⟨_, rfl, by simp [evSs, evS, v_var, v_int, v_bl, v_non, v_str, v_glb, v_tup, v_lst, v_bop, v_neg, v_cmp, v_chn, v_isN, v_notN, v_land, v_lor, v_lnot, v_ite, v_call, v_bi, v_mth, v_idx, v_slc, v_rev, v_isi, v_lrg1, v_lrg2, evEs, evIfs, evIt, evPar, bind_ok, asB, dOf, dsOf, pureD, ofD, ofB, isNon, exitF, exitV, startE, List.length_cons, List.length_nil, List.map_cons, List.map_nil, List.cons_append, List.nil_append, List.append_nil, List.replicate, List.getElem?_cons_zero, List.getElem?_cons_succ, List.take_length, Option.map_some, Option.map_none, if_true, if_false, Bool.false_eq_true, Bool.not_true, Bool.not_false, List.any_cons, List.any_nil, Bool.or_false, isTy, List.set_cons_zero, List.set_cons_succ, setTg, wipeE, tgSlots, seqItems, biD, bopD, cmpD, List.zip_cons_cons, List.zip_nil_left, List.zip_nil_right, List.foldl_cons, List.foldl_nil, if_neg, Nat.reduceAdd, Nat.reduceSub, reduceIte, dOf_d, d1]⟩) .nil))
  have q3 : ∀ a b c d, evE (Cn n) (Gc csts) q_seen_in_3 [some (.d (pl ps)), some (.d (.int K)), some (.d (.list [P.box, g0.box])), a, b, c, d, none, none] m = .ok (.d (.list [.int (P.x + P.w), .int 60])) m := fun a b c d =>
    comp_two (items := [P.box, g0.box]) (by simp [evSs, evS, v_var, v_int, v_bl, v_non, v_str, v_glb, v_tup, v_lst, v_bop, v_neg, v_cmp, v_chn, v_isN, v_notN, v_land, v_lor, v_lnot, v_ite, v_call, v_bi, v_mth, v_idx, v_slc, v_rev, v_isi, v_lrg1, v_lrg2, evEs, evIfs, evIt, evPar, bind_ok, asB, dOf, dsOf, pureD, ofD, ofB, isNon, exitF, exitV, startE, List.length_cons, List.length_nil, List.map_cons, List.map_nil, List.cons_append, List.nil_append, List.append_nil, List.replicate, List.getElem?_cons_zero, List.getElem?_cons_succ, List.take_length, Option.map_some, Option.map_none, if_true, if_false, Bool.false_eq_true, Bool.not_true, Bool.not_false, List.any_cons, List.any_nil, Bool.or_false, isTy, List.set_cons_zero, List.set_cons_succ, setTg, wipeE, tgSlots, seqItems, biD, bopD, cmpD, List.zip_cons_cons, List.zip_nil_left, List.zip_nil_right, List.foldl_cons, List.foldl_nil, if_neg, Nat.reduceAdd, Nat.reduceSub, reduceIte]) (szl (by simp)) (.cons (fun acc => ⟨_, rfl, by simp [evSs, evS, v_var, v_int, v_bl, v_non, v_str, v_glb, v_tup, v_lst, v_bop, v_neg, v_cmp, v_chn, v_isN, v_notN, v_land, v_lor, v_lnot, v_ite, v_call, v_bi, v_mth, v_idx, v_slc, v_rev, v_isi, v_lrg1, v_lrg2, evEs, evIfs, evIt, evPar, bind_ok, asB, dOf, dsOf, pureD, ofD, ofB, isNon, exitF, exitV, startE, List.length_cons, List.length_nil, List.map_cons, List.map_nil, List.cons_append, List.nil_append, List.append_nil, List.replicate, List.getElem?_cons_zero, List.getElem?_cons_succ, List.take_length, Option.map_some, Option.map_none, if_true, if_false, Bool.false_eq_true, Bool.not_true, Bool.not_false, List.any_cons, List.any_nil, Bool.or_false, isTy, List.set_cons_zero, List.set_cons_succ, setTg, wipeE, tgSlots, seqItems, biD, bopD, cmpD, List.zip_cons_cons, List.zip_nil_left, List.zip_nil_right, List.foldl_cons, List.foldl_nil, if_neg, Nat.reduceAdd, Nat.reduceSub, reduceIte, dOf_d, b0, b2]⟩) (.cons (fun acc => ⟨_, rfl, by simp [evSs, evS, v_var, v_int, v_bl, v_non, v_str, v_glb, v_tup, v_lst, v_bop, v_neg, v_cmp, v_chn, v_isN, v_notN, v_land, v_lor, v_lnot, v_ite, v_call, v_bi, v_mth, v_idx, v_slc, v_rev, v_isi, v_lrg1, v_lrg2, evEs, evIfs, evIt, evPar, bind_ok, asB, dOf, dsOf, pureD, ofD, ofB, isNon, exitF, exitV, startE, List.length_cons, List.length_nil, List.map_cons, List.map_nil, List.cons_append, List.nil_append, List.append_nil, List.replicate, List.getElem?_cons_zero, List.getElem?_cons_succ, List.take_length, Option.map_some, Option.map_none, if_true, if_false, Bool.false_eq_true, Bool.not_true, Bool.not_false, List.any_cons, List.any_nil, Bool.or_false, isTy, List.set_cons_zero, List.set_cons_succ, setTg, wipeE, tgSlots, seqItems, biD, bopD, cmpD, List.zip_cons_cons, List.zip_nil_left, List.zip_nil_right, List.foldl_cons, List.foldl_nil, if_neg, Nat.reduceAdd, Nat.reduceSub, reduceIte, dOf_d, d0, d2]⟩) .nil))
  have q4 : ∀ a b c d, evE (Cn n) (Gc csts) q_seen_in_4 [some (.d (pl ps)), some (.d (.int K)), some (.d (.list [P.box, g0.box])), a, b, c, d, none, none] m = .ok (.d (.list [.int (P.y + P.h), .int 60])) m := fun a b c d =>
    comp_two (items := [P.box, g0.box]) (by simp [evSs, evS, v_var, v_int, v_bl, v_non, v_str, v_glb, v_tup, v_lst, v_bop, v_neg, v_cmp, v_chn, v_isN, v_notN, v_land, v_lor, v_lnot, v_ite, v_call, v_bi, v_mth, v_idx, v_slc, v_rev, v_isi, v_lrg1, v_lrg2, evEs, evIfs, evIt, evPar, bind_ok, asB, dOf, dsOf, pureD, ofD, ofB, isNon, exitF, exitV, startE, List.length_cons, List.length_nil, List.map_cons, List.map_nil, List.cons_append, List.nil_append, List.append_nil, List.replicate, List.getElem?_cons_zero, List.getElem?_cons_succ, List.take_length, Option.map_some, Option.map_none, if_true, if_false, Bool.false_eq_true, Bool.not_true, Bool.not_false, List.any_cons, List.any_nil, Bool.or_false, isTy, List.set_cons_zero, List.set_cons_succ, setTg, wipeE, tgSlots, seqItems, biD, bopD, cmpD, List.zip_cons_cons, List.zip_nil_left, List.zip_nil_right, List.foldl_cons, List.foldl_nil, if_neg, Nat.reduceAdd, Nat.reduceSub, reduceIte]) (szl (by simp)) (.cons (fun acc => ⟨_, rfl, by simp [evSs, evS, v_var, v_int, v_bl, v_non, v_str, v_glb, v_tup, v_lst, v_bop, v_neg, v_cmp, v_chn, v_isN, v_notN, v_land, v_lor, v_lnot, v_ite, v_call, v_bi, v_mth, v_idx, v_slc, v_rev, v_isi, v_lrg1, v_lrg2, evEs, evIfs, evIt, evPar, bind_ok, asB, dOf, dsOf, pureD, ofD, ofB, isNon, exitF, exitV, startE, List.length_cons, List.length_nil, List.map_cons, List.map_nil, List.cons_append, List.nil_append, List.append_nil, List.replicate, List.getElem?_cons_zero, List.getElem?_cons_succ, List.take_length, Option.map_some, Option.map_none, if_true, if_false, Bool.false_eq_true, Bool.not_true, Bool.not_false, List.any_cons, List.any_nil, Bool.or_false, isTy, List.set_cons_zero, List.set_cons_succ, setTg, wipeE, tgSlots, seqItems, biD, bopD, cmpD, List.zip_cons_cons, List.zip_nil_left, List.zip_nil_right, List.foldl_cons, List.foldl_nil, if_neg, Nat.reduceAdd, Nat.reduceSub, reduceIte, dOf_d, b1, b3]⟩) (.cons (fun acc => ⟨_, rfl, by simp [evSs, evS, v_var, v_int, v_bl, v_non, v_str, v_glb, v_tup, v_lst, v_bop, v_neg, v_cmp, v_chn, v_isN, v_notN, v_land, v_lor, v_lnot, v_ite, v_call, v_bi, v_mth, v_idx, v_slc, v_rev, v_isi, v_lrg1, v_lrg2, evEs, evIfs, evIt, evPar, bind_ok, asB, dOf, dsOf, pureD, ofD, ofB, isNon, exitF, exitV, startE, List.length_cons, List.length_nil, List.map_cons, List.map_nil, List.cons_append, List.nil_append, List.append_nil, List.replicate, List.getElem?_cons_zero, List.getElem?_cons_succ, List.take_length, Option.map_some, Option.map_none, if_true, if_false, Bool.false_eq_true, Bool.not_true, Bool.not_false, List.any_cons, List.any_nil, Bool.or_false, isTy, List.set_cons_zero, List.set_cons_succ, setTg, wipeE, tgSlots, seqItems, biD, bopD, cmpD, List.zip_cons_cons, List.zip_nil_left, List.zip_nil_right, List.foldl_cons, List.foldl_nil, if_neg, Nat.reduceAdd, Nat.reduceSub, reduceIte, dOf_d, d1, d3]⟩) .nil))
  have ge_ : ∀ a b : Int, cmpD .ge (.int a) (.int b) = some (decide (b ≤ a)) := fun _ _ => rfl
  unfold seenD seenT
  simp only [f_seen_in, b_seen_in, startE, List.map_cons, List.map_nil, List.length_cons, List.length_nil, List.replicate, List.cons_append, List.nil_append, Nat.reduceAdd, Nat.reduceSub]
  simp only [evSs, evS, q0, bind_ok, List.set_cons_zero, List.set_cons_succ, v_bi, evEs, q1, q2, q3, q4, dsOf, dOf_d, biD, intsOf, Option.map_some, ofD, maxI, minI, List.foldl_cons, List.foldl_nil, v_lor, v_cmp, v_var, List.getElem?_cons_zero, List.getElem?_cons_succ, ge_, ofB, asB]
  by_cases c1 : min (P.x + P.w) 60 ≤ max P.x 0
  · simp [c1, v_non, exitF, exitV]
  · by_cases c2 : min (P.y + P.h) 60 ≤ max P.y 0
    · simp [c1, c2, v_non, exitF, exitV]
    · simp [c1, c2, evSs, evS, v_var, v_int, v_bl, v_non, v_str, v_glb, v_tup, v_lst, v_bop, v_neg, v_cmp, v_chn, v_isN, v_notN, v_land, v_lor, v_lnot, v_ite, v_call, v_bi, v_mth, v_idx, v_slc, v_rev, v_isi, v_lrg1, v_lrg2, evEs, evIfs, evIt, evPar, bind_ok, asB, dOf, dsOf, pureD, ofD, ofB, isNon, exitF, exitV, startE, List.length_cons, List.length_nil, List.map_cons, List.map_nil, List.cons_append, List.nil_append, List.append_nil, List.replicate, List.getElem?_cons_zero, List.getElem?_cons_succ, List.take_length, Option.map_some, Option.map_none, if_true, if_false, Bool.false_eq_true, Bool.not_true, Bool.not_false, List.any_cons, List.any_nil, Bool.or_false, isTy, List.set_cons_zero, List.set_cons_succ, setTg, wipeE, tgSlots, seqItems, biD, bopD, cmpD, List.zip_cons_cons, List.zip_nil_left, List.zip_nil_right, List.foldl_cons, List.foldl_nil, if_neg, Nat.reduceAdd, Nat.reduceSub, reduceIte, Bx.d]
/-- from where to where -/
def spansD (p : Pn) : D := match seenT p with
  | none => .none
  | some b => .tuple [.tuple [.int b.l, .int (b.l + b.w)], .tuple [.int b.t, .int (b.t + b.h)]]
theorem c_spans_of (hn : 4 ≤ n) (F : Flat ps) (hk : (g0 :: ps)[k + 1]? = some P) : Cn n 33 [.d (pl ps), .d (.int ((k + 1 : Nat) : Int))] m = .ok (.d (spansD P)) m := by
  obtain ⟨n, rfl⟩ := up1 (by omega : 1 ≤ n)
  rw [call_def (fn := f_spans_of) rfl rfl]
  have h1 := c_seen_in (m := m) (by omega : 3 ≤ n) F hk
  generalize ((k + 1 : Nat) : Int) = K at *
  unfold seenD at h1
  unfold spansD
  cases hs : seenT P with
  | none =>
    rw [hs] at h1
    simp [f_spans_of, b_spans_of, evSs, evS, v_var, v_int, v_bl, v_non, v_str, v_glb, v_tup, v_lst, v_bop, v_neg, v_cmp, v_chn, v_isN, v_notN, v_land, v_lor, v_lnot, v_ite, v_call, v_bi, v_mth, v_idx, v_slc, v_rev, v_isi, v_lrg1, v_lrg2, evEs, evIfs, evIt, evPar, bind_ok, asB, dOf, dsOf, pureD, ofD, ofB, isNon, exitF, exitV, startE, List.length_cons, List.length_nil, List.map_cons, List.map_nil, List.cons_append, List.nil_append, List.append_nil, List.replicate, List.getElem?_cons_zero, List.getElem?_cons_succ, List.take_length, Option.map_some, Option.map_none, if_true, if_false, Bool.false_eq_true, Bool.not_true, Bool.not_false, List.any_cons, List.any_nil, Bool.or_false, isTy, List.set_cons_zero, List.set_cons_succ, setTg, wipeE, tgSlots, seqItems, biD, bopD, cmpD, List.zip_cons_cons, List.zip_nil_left, List.zip_nil_right, List.foldl_cons, List.foldl_nil, if_neg, Nat.reduceAdd, Nat.reduceSub, reduceIte, h1]
  | some b =>
    rw [hs] at h1
    simp [f_spans_of, b_spans_of, evSs, evS, v_var, v_int, v_bl, v_non, v_str, v_glb, v_tup, v_lst, v_bop, v_neg, v_cmp, v_chn, v_isN, v_notN, v_land, v_lor, v_lnot, v_ite, v_call, v_bi, v_mth, v_idx, v_slc, v_rev, v_isi, v_lrg1, v_lrg2, evEs, evIfs, evIt, evPar, bind_ok, asB, dOf, dsOf, pureD, ofD, ofB, isNon, exitF, exitV, startE, List.length_cons, List.length_nil, List.map_cons, List.map_nil, List.cons_append, List.nil_append, List.append_nil, List.replicate, List.getElem?_cons_zero, List.getElem?_cons_succ, List.take_length, Option.map_some, Option.map_none, if_true, if_false, Bool.false_eq_true, Bool.not_true, Bool.not_false, List.any_cons, List.any_nil, Bool.or_false, isTy, List.set_cons_zero, List.set_cons_succ, setTg, wipeE, tgSlots, seqItems, biD, bopD, cmpD, List.zip_cons_cons, List.zip_nil_left, List.zip_nil_right, List.foldl_cons, List.foldl_nil, if_neg, Nat.reduceAdd, Nat.reduceSub, reduceIte, h1, Bx.d, dOf_d, idxD, L2.atI, L2.ixN]
end
end k19
end Kp
end

section
set_option Elab.async false
set_option linter.all false
set_option maxRecDepth 100000
set_option maxHeartbeats 4000077
namespace Kp
namespace k19
open PySem
inductive Way where | above | below | left | right
def Way.s : Way → Str
  | .above => "above" | .below => "below" | .left => "left" | .right => "right"
def Way.al : Way → Bool
  | .left => true | .right => true | _ => false
def Way.bk : Way → Bool
  | .left => true | .above => true | _ => false
/-- one that is led to: what lies between across, the distance, the place, the name -/
structure E4 where
  a : Int
  f : Int
  s : Int
  j : Int
def E4.l (e : E4) : List Int := [e.a, e.f, e.s, e.j]
def E4.d (e : E4) : D := .tuple [.int e.a, .int e.f, .int e.s, .int e.j]
def rk (w : Way) (o r : Bx) : Option (Int × Int × Int) :=
  let far := match w with
    | .left => o.l - (r.l + r.w)
    | .right => r.l - (o.l + o.w)
    | .above => o.t - (r.t + r.h)
    | .below => r.t - (o.t + o.h)
  let gap := if w.al then max (r.t - (o.t + o.h)) (o.t - (r.t + r.h)) else max (r.l - (o.l + o.w)) (o.l - (r.l + r.w))
  if far < 0 then none else some (max 0 (gap + 1), far, if w.al then r.t else r.l)
def spD (b : Bx) : D := .tuple [.tuple [.int b.l, .int (b.l + b.w)], .tuple [.int b.t, .int (b.t + b.h)]]
def rkD (w : Way) (o r : Bx) : D := match rk w o r with
  | none => .none
  | some (a, f, s) => .tuple [.int a, .int f, .int s]
section
variable {ps : List Pn} {n : Nat} {m : Store} {k : Nat} {P : Pn}
theorem c_gap_of (hn : 1 ≤ n) (a b c d : Int) : Cn n 34 [.d (.tuple [.int a, .int b]), .d (.tuple [.int c, .int d])] m = .ok (.d (.int (max (c - b) (a - d)))) m := by
  obtain ⟨n, rfl⟩ := up1 hn
  rw [call_def (fn := f_gap_of) rfl rfl]
  simp [f_gap_of, b_gap_of, evSs, evS, v_var, v_int, v_bl, v_non, v_str, v_glb, v_tup, v_lst, v_bop, v_neg, v_cmp, v_chn, v_isN, v_notN, v_land, v_lor, v_lnot, v_ite, v_call, v_bi, v_mth, v_idx, v_slc, v_rev, v_isi, v_lrg1, v_lrg2, evEs, evIfs, evIt, evPar, bind_ok, asB, dOf, dsOf, pureD, ofD, ofB, isNon, exitF, exitV, startE, List.length_cons, List.length_nil, List.map_cons, List.map_nil, List.cons_append, List.nil_append, List.append_nil, List.replicate, List.getElem?_cons_zero, List.getElem?_cons_succ, List.take_length, Option.map_some, Option.map_none, if_true, if_false, Bool.false_eq_true, Bool.not_true, Bool.not_false, List.any_cons, List.any_nil, Bool.or_false, isTy, List.set_cons_zero, List.set_cons_succ, setTg, wipeE, tgSlots, seqItems, biD, bopD, cmpD, List.zip_cons_cons, List.zip_nil_left, List.zip_nil_right, List.foldl_cons, List.foldl_nil, if_neg, Nat.reduceAdd, Nat.reduceSub, reduceIte, dOf_d, idxD, L2.atI, L2.ixN]
theorem w_al (w : Way) : cmpD .inn (.str w.s) (.tuple [.str "left", .str "right"]) = some w.al := by cases w <;> kernel_rfl
theorem w_bk (w : Way) : cmpD .inn (.str w.s) (.tuple [.str "left", .str "above"]) = some w.bk := by cases w <;> kernel_rfl
theorem w_way (w : Way) : cmpD .inn (.str w.s) (.tuple [.str "above", .str "back", .str "below", .str "in", .str "left", .str "next", .str "out", .str "right"]) = some true := by cases w <;> kernel_rfl
theorem w_arr (w : Way) : cmpD .nin (.str w.s) (.tuple [.str "above", .str "below", .str "left", .str "right"]) = some false := by cases w <;> kernel_rfl
theorem lt_I (i j : Int) : cmpD .lt (.int i) (.int j) = some (decide (i < j)) := rfl
theorem pair_ix (a b : D) : idxD (.tuple [a, b]) (.int 0) = some a ∧ idxD (.tuple [a, b]) (.int 1) = some b := by
  refine ⟨?_, ?_⟩ <;> simp [idxD, L2.atI, L2.ixN]
theorem c_rank_of (hn : 2 ≤ n) (w : Way) (o r : Bx) : Cn n 35 [.d (spD o), .d (spD r), .d (.str w.s)] m = .ok (.d (rkD w o r)) m := by
  obtain ⟨n, rfl⟩ := up1 (by omega : 1 ≤ n)
  rw [call_def (fn := f_rank_of) rfl rfl]
  have gp : ∀ a b c d : Int, Cn n 34 [.d (.tuple [.int a, .int b]), .d (.tuple [.int c, .int d])] m = .ok (.d (.int (max (c - b) (a - d)))) m := fun a b c d => c_gap_of (by omega : 1 ≤ n) a b c d
  have h1 := w_al w
  have h2 := w_bk w
  have o0 := (pair_ix (.tuple [.int o.l, .int (o.l + o.w)]) (.tuple [.int o.t, .int (o.t + o.h)])).1
  have o1 := (pair_ix (.tuple [.int o.l, .int (o.l + o.w)]) (.tuple [.int o.t, .int (o.t + o.h)])).2
  have r0 := (pair_ix (.tuple [.int r.l, .int (r.l + r.w)]) (.tuple [.int r.t, .int (r.t + r.h)])).1
  have r1 := (pair_ix (.tuple [.int r.l, .int (r.l + r.w)]) (.tuple [.int r.t, .int (r.t + r.h)])).2
  have p0 : ∀ a b : Int, idxD (.tuple [.int a, .int b]) (.int 0) = some (.int a) := fun a b => (pair_ix _ _).1
  have p1 : ∀ a b : Int, idxD (.tuple [.int a, .int b]) (.int 1) = some (.int b) := fun a b => (pair_ix _ _).2
  unfold rkD rk
  cases w <;> simp only [Way.al, Way.bk] at h1 h2 <;> simp only [if_true, Bool.false_eq_true, if_false]
  · by_cases hf : o.t - (r.t + r.h) < 0 <;> simp [f_rank_of, b_rank_of, evSs, evS, v_var, v_int, v_bl, v_non, v_str, v_glb, v_tup, v_lst, v_bop, v_neg, v_cmp, v_chn, v_isN, v_notN, v_land, v_lor, v_lnot, v_ite, v_call, v_bi, v_mth, v_idx, v_slc, v_rev, v_isi, v_lrg1, v_lrg2, evEs, evIfs, evIt, evPar, bind_ok, asB, dOf, dsOf, pureD, ofD, ofB, isNon, exitF, exitV, startE, List.length_cons, List.length_nil, List.map_cons, List.map_nil, List.cons_append, List.nil_append, List.append_nil, List.replicate, List.getElem?_cons_zero, List.getElem?_cons_succ, List.take_length, Option.map_some, Option.map_none, if_true, if_false, Bool.false_eq_true, Bool.not_true, Bool.not_false, List.any_cons, List.any_nil, Bool.or_false, isTy, List.set_cons_zero, List.set_cons_succ, setTg, wipeE, tgSlots, seqItems, biD, bopD, List.zip_cons_cons, List.zip_nil_left, List.zip_nil_right, List.foldl_cons, List.foldl_nil, if_neg, Nat.reduceAdd, Nat.reduceSub, reduceIte, spD, h1, h2, dOf_d, o0, o1, r0, r1, p0, p1, lt_I, hf, gp, Way.al]
  · by_cases hf : r.t - (o.t + o.h) < 0 <;> simp [f_rank_of, b_rank_of, evSs, evS, v_var, v_int, v_bl, v_non, v_str, v_glb, v_tup, v_lst, v_bop, v_neg, v_cmp, v_chn, v_isN, v_notN, v_land, v_lor, v_lnot, v_ite, v_call, v_bi, v_mth, v_idx, v_slc, v_rev, v_isi, v_lrg1, v_lrg2, evEs, evIfs, evIt, evPar, bind_ok, asB, dOf, dsOf, pureD, ofD, ofB, isNon, exitF, exitV, startE, List.length_cons, List.length_nil, List.map_cons, List.map_nil, List.cons_append, List.nil_append, List.append_nil, List.replicate, List.getElem?_cons_zero, List.getElem?_cons_succ, List.take_length, Option.map_some, Option.map_none, if_true, if_false, Bool.false_eq_true, Bool.not_true, Bool.not_false, List.any_cons, List.any_nil, Bool.or_false, isTy, List.set_cons_zero, List.set_cons_succ, setTg, wipeE, tgSlots, seqItems, biD, bopD, List.zip_cons_cons, List.zip_nil_left, List.zip_nil_right, List.foldl_cons, List.foldl_nil, if_neg, Nat.reduceAdd, Nat.reduceSub, reduceIte, spD, h1, h2, dOf_d, o0, o1, r0, r1, p0, p1, lt_I, hf, gp, Way.al]
  · by_cases hf : o.l - (r.l + r.w) < 0 <;> simp [f_rank_of, b_rank_of, evSs, evS, v_var, v_int, v_bl, v_non, v_str, v_glb, v_tup, v_lst, v_bop, v_neg, v_cmp, v_chn, v_isN, v_notN, v_land, v_lor, v_lnot, v_ite, v_call, v_bi, v_mth, v_idx, v_slc, v_rev, v_isi, v_lrg1, v_lrg2, evEs, evIfs, evIt, evPar, bind_ok, asB, dOf, dsOf, pureD, ofD, ofB, isNon, exitF, exitV, startE, List.length_cons, List.length_nil, List.map_cons, List.map_nil, List.cons_append, List.nil_append, List.append_nil, List.replicate, List.getElem?_cons_zero, List.getElem?_cons_succ, List.take_length, Option.map_some, Option.map_none, if_true, if_false, Bool.false_eq_true, Bool.not_true, Bool.not_false, List.any_cons, List.any_nil, Bool.or_false, isTy, List.set_cons_zero, List.set_cons_succ, setTg, wipeE, tgSlots, seqItems, biD, bopD, List.zip_cons_cons, List.zip_nil_left, List.zip_nil_right, List.foldl_cons, List.foldl_nil, if_neg, Nat.reduceAdd, Nat.reduceSub, reduceIte, spD, h1, h2, dOf_d, o0, o1, r0, r1, p0, p1, lt_I, hf, gp, Way.al]
  · by_cases hf : r.l - (o.l + o.w) < 0 <;> simp [f_rank_of, b_rank_of, evSs, evS, v_var, v_int, v_bl, v_non, v_str, v_glb, v_tup, v_lst, v_bop, v_neg, v_cmp, v_chn, v_isN, v_notN, v_land, v_lor, v_lnot, v_ite, v_call, v_bi, v_mth, v_idx, v_slc, v_rev, v_isi, v_lrg1, v_lrg2, evEs, evIfs, evIt, evPar, bind_ok, asB, dOf, dsOf, pureD, ofD, ofB, isNon, exitF, exitV, startE, List.length_cons, List.length_nil, List.map_cons, List.map_nil, List.cons_append, List.nil_append, List.append_nil, List.replicate, List.getElem?_cons_zero, List.getElem?_cons_succ, List.take_length, Option.map_some, Option.map_none, if_true, if_false, Bool.false_eq_true, Bool.not_true, Bool.not_false, List.any_cons, List.any_nil, Bool.or_false, isTy, List.set_cons_zero, List.set_cons_succ, setTg, wipeE, tgSlots, seqItems, biD, bopD, List.zip_cons_cons, List.zip_nil_left, List.zip_nil_right, List.foldl_cons, List.foldl_nil, if_neg, Nat.reduceAdd, Nat.reduceSub, reduceIte, spD, h1, h2, dOf_d, o0, o1, r0, r1, p0, p1, lt_I, hf, gp, Way.al]
/-- the names of the stops -/
def nms (ps : List Pn) : List D := ps.map fun p => .int (p.nm : Int)
def prs (ps : List Pn) : List D := ps.map fun p => .tuple [.int 0, .int (p.nm : Int)]
theorem sort_prs (F : Flat ps) : sortD (prs ps) = some (prs ps) := by
  have l1 := F.len
  have hpair : (prs ps).Pairwise fun a b => leIJ a b = true := by
    unfold prs
    rw [List.pairwise_map, List.pairwise_iff_getElem]
    intro i j hi hj hij
    have h1 := F.nm (i + 1) ps[i] (by simp)
    have h2 := F.nm (j + 1) ps[j] (by simp)
    refine decide_eq_true (.inr ⟨rfl, ?_⟩)
    show (ps[i].nm : Int) ≤ (ps[j].nm : Int)
    omega
  have hall : (prs ps).all intPair = true := by
    rw [List.all_eq_true]
    intro x hx
    obtain ⟨p, _, rfl⟩ := List.mem_map.mp hx
    rfl
  have ne : prs ps ≠ [] := fun h => by
    have := congrArg List.length h
    simp [prs] at this
    subst this
    simp at l1
  have i0 : intsOf (prs ps) = none := by
    cases ps with
    | nil => exact absurd rfl ne
    | cons p r => rfl
  have s0 : strsOf (prs ps) = none := by
    cases ps with
    | nil => exact absurd rfl ne
    | cons p r => rfl
  unfold sortD
  rw [i0, s0]
  simp only [hall, if_true]
  rw [List.mergeSort_of_pairwise hpair]
theorem eq_nonI (i : Int) : cmpD .eq .none (.int i) = some false := rfl
theorem c_in_order0 (hn : 1 ≤ n) (F : Flat ps) : Cn n 21 [.d (pl ps), .d (.int 0)] m = .ok (.d (.list (nms ps))) m := by
  obtain ⟨n, rfl⟩ := up1 hn
  rw [call_def (fn := f_in_order) rfl rfl]
  have hl := pl_len F
  have l1 := F.len
  have q0 : evE (Cn n) (Gc csts) q_in_order_0 [some (.d (pl ps)), some (.d (.int 0)), none] m = .ok (.d (.list (prs ps))) m := by
    have := comp_if (Φ := Cn n) (G := Gc csts) (env := [some (.d (pl ps)), some (.d (.int 0)), none]) (m := m) (elt := .tup [.idx (.var 2) (.int 3), .idx (.var 2) (.int 0)]) (c := .cmp .eq (.idx (.var 2) (.int 1)) (.var 1)) (tg := .one 2) (it := .seq (.var 0)) (items := (g0 :: ps).map Pn.d) (fun d => match idxD d (.int 1) with | some (.int i) => i == 0 | _ => false) (fun d => match idxD d (.int 0) with | some z => .tuple [.int 0, z] | none => .none) (by simp [evSs, evS, v_var, v_int, v_bl, v_non, v_str, v_glb, v_tup, v_lst, v_bop, v_neg, v_cmp, v_chn, v_isN, v_notN, v_land, v_lor, v_lnot, v_ite, v_call, v_bi, v_mth, v_idx, v_slc, v_rev, v_isi, v_lrg1, v_lrg2, evEs, evIfs, evIt, evPar, bind_ok, asB, dOf, dsOf, pureD, ofD, ofB, isNon, exitF, exitV, startE, List.length_cons, List.length_nil, List.map_cons, List.map_nil, List.cons_append, List.nil_append, List.append_nil, List.replicate, List.getElem?_cons_zero, List.getElem?_cons_succ, List.take_length, Option.map_some, Option.map_none, if_true, if_false, Bool.false_eq_true, Bool.not_true, Bool.not_false, List.any_cons, List.any_nil, Bool.or_false, isTy, List.set_cons_zero, List.set_cons_succ, setTg, wipeE, tgSlots, seqItems, biD, bopD, cmpD, List.zip_cons_cons, List.zip_nil_left, List.zip_nil_right, List.foldl_cons, List.foldl_nil, if_neg, Nat.reduceAdd, Nat.reduceSub, reduceIte, pl]) (szl (by omega)) fun x hx acc => by
      obtain ⟨p, hp, rfl⟩ := PL_mem hx
      obtain ⟨i0, i1, i2, i3, i4⟩ := pd_ix p
      rcases (in_L F hp).2 with hu | hu
      · rw [hu] at i1
        have i1 : idxD p.d (.int 1) = some .none := i1
        exact ⟨_, rfl, by simp [evSs, evS, v_var, v_int, v_bl, v_non, v_str, v_glb, v_tup, v_lst, v_bop, v_neg, v_cmp, v_chn, v_isN, v_notN, v_land, v_lor, v_lnot, v_ite, v_call, v_bi, v_mth, v_idx, v_slc, v_rev, v_isi, v_lrg1, v_lrg2, evEs, evIfs, evIt, evPar, bind_ok, asB, dOf, dsOf, pureD, ofD, ofB, isNon, exitF, exitV, startE, List.length_cons, List.length_nil, List.map_cons, List.map_nil, List.cons_append, List.nil_append, List.append_nil, List.replicate, List.getElem?_cons_zero, List.getElem?_cons_succ, List.take_length, Option.map_some, Option.map_none, if_true, if_false, Bool.false_eq_true, Bool.not_true, Bool.not_false, List.any_cons, List.any_nil, Bool.or_false, isTy, List.set_cons_zero, List.set_cons_succ, setTg, wipeE, tgSlots, seqItems, biD, bopD, List.zip_cons_cons, List.zip_nil_left, List.zip_nil_right, List.foldl_cons, List.foldl_nil, if_neg, Nat.reduceAdd, Nat.reduceSub, reduceIte, dOf_d, i1, eq_nonI], fun h => by rw [i1] at h; cases h⟩
      · rw [hu] at i1
        have i1 : idxD p.d (.int 1) = some (.int 0) := i1
        exact ⟨_, rfl, by simp [evSs, evS, v_var, v_int, v_bl, v_non, v_str, v_glb, v_tup, v_lst, v_bop, v_neg, v_cmp, v_chn, v_isN, v_notN, v_land, v_lor, v_lnot, v_ite, v_call, v_bi, v_mth, v_idx, v_slc, v_rev, v_isi, v_lrg1, v_lrg2, evEs, evIfs, evIt, evPar, bind_ok, asB, dOf, dsOf, pureD, ofD, ofB, isNon, exitF, exitV, startE, List.length_cons, List.length_nil, List.map_cons, List.map_nil, List.cons_append, List.nil_append, List.append_nil, List.replicate, List.getElem?_cons_zero, List.getElem?_cons_succ, List.take_length, Option.map_some, Option.map_none, if_true, if_false, Bool.false_eq_true, Bool.not_true, Bool.not_false, List.any_cons, List.any_nil, Bool.or_false, isTy, List.set_cons_zero, List.set_cons_succ, setTg, wipeE, tgSlots, seqItems, biD, bopD, List.zip_cons_cons, List.zip_nil_left, List.zip_nil_right, List.foldl_cons, List.foldl_nil, if_neg, Nat.reduceAdd, Nat.reduceSub, reduceIte, dOf_d, i1, cmp_eqI], fun h => by simp [evSs, evS, v_var, v_int, v_bl, v_non, v_str, v_glb, v_tup, v_lst, v_bop, v_neg, v_cmp, v_chn, v_isN, v_notN, v_land, v_lor, v_lnot, v_ite, v_call, v_bi, v_mth, v_idx, v_slc, v_rev, v_isi, v_lrg1, v_lrg2, evEs, evIfs, evIt, evPar, bind_ok, asB, dOf, dsOf, pureD, ofD, ofB, isNon, exitF, exitV, startE, List.length_cons, List.length_nil, List.map_cons, List.map_nil, List.cons_append, List.nil_append, List.append_nil, List.replicate, List.getElem?_cons_zero, List.getElem?_cons_succ, List.take_length, Option.map_some, Option.map_none, if_true, if_false, Bool.false_eq_true, Bool.not_true, Bool.not_false, List.any_cons, List.any_nil, Bool.or_false, isTy, List.set_cons_zero, List.set_cons_succ, setTg, wipeE, tgSlots, seqItems, biD, bopD, List.zip_cons_cons, List.zip_nil_left, List.zip_nil_right, List.foldl_cons, List.foldl_nil, if_neg, Nat.reduceAdd, Nat.reduceSub, reduceIte, dOf_d, i0, i3]⟩
    have e : (((g0 :: ps).map Pn.d).filter fun d => match idxD d (.int 1) with | some (.int i) => i == 0 | _ => false) = ps.map Pn.d := by
      rw [List.map_cons, List.filter_cons]
      have : idxD g0.d (.int 1) = some .none := (pd_ix g0).2.1
      simp only [this, Bool.false_eq_true, if_false]
      rw [List.filter_eq_self]
      intro x hx
      obtain ⟨p, hp, rfl⟩ := List.mem_map.mp hx
      have i1 := (pd_ix p).2.1
      rw [(F.ok p hp).2.1] at i1
      have i1 : idxD p.d (.int 1) = some (.int 0) := i1
      simp [i1]
    rw [e, List.map_map] at this
    have e2 : ((fun d => match idxD d (PyData.int 0) with | some z => PyData.tuple [.int 0, z] | none => PyData.none) ∘ Pn.d) = (fun p : Pn => PyData.tuple [.int 0, .int (p.nm : Int)]) := by
      funext p
      simp only [Function.comp_apply, (pd_ix p).1]
    rw [e2] at this
    exact this
  have so := sort_prs F
  have q1 : evE (Cn n) (Gc csts) q_in_order_1 [some (.d (pl ps)), some (.d (.int 0)), none] m = .ok (.d (.list (nms ps))) m := by
    have := comp_map (Φ := Cn n) (G := Gc csts) (env := [some (.d (pl ps)), some (.d (.int 0)), none]) (m := m) (elt := .idx (.var 2) (.int 1)) (tg := .one 2) (it := .seq (.bi .sorted [q_in_order_0])) (items := prs ps) (fun d => match idxD d (.int 1) with | some z => z | none => .none) (by simp [evSs, evS, v_var, v_int, v_bl, v_non, v_str, v_glb, v_tup, v_lst, v_bop, v_neg, v_cmp, v_chn, v_isN, v_notN, v_land, v_lor, v_lnot, v_ite, v_call, v_bi, v_mth, v_idx, v_slc, v_rev, v_isi, v_lrg1, v_lrg2, evEs, evIfs, evIt, evPar, bind_ok, asB, dOf, dsOf, pureD, ofD, ofB, isNon, exitF, exitV, startE, List.length_cons, List.length_nil, List.map_cons, List.map_nil, List.cons_append, List.nil_append, List.append_nil, List.replicate, List.getElem?_cons_zero, List.getElem?_cons_succ, List.take_length, Option.map_some, Option.map_none, if_true, if_false, Bool.false_eq_true, Bool.not_true, Bool.not_false, List.any_cons, List.any_nil, Bool.or_false, isTy, List.set_cons_zero, List.set_cons_succ, setTg, wipeE, tgSlots, seqItems, biD, bopD, cmpD, List.zip_cons_cons, List.zip_nil_left, List.zip_nil_right, List.foldl_cons, List.foldl_nil, if_neg, Nat.reduceAdd, Nat.reduceSub, reduceIte, q0, so]) (szl (by simp [prs]; omega)) fun x hx acc => by
      obtain ⟨p, hp, rfl⟩ := List.mem_map.mp hx
      exact ⟨_, rfl, by simp [evSs, evS, v_var, v_int, v_bl, v_non, v_str, v_glb, v_tup, v_lst, v_bop, v_neg, v_cmp, v_chn, v_isN, v_notN, v_land, v_lor, v_lnot, v_ite, v_call, v_bi, v_mth, v_idx, v_slc, v_rev, v_isi, v_lrg1, v_lrg2, evEs, evIfs, evIt, evPar, bind_ok, asB, dOf, dsOf, pureD, ofD, ofB, isNon, exitF, exitV, startE, List.length_cons, List.length_nil, List.map_cons, List.map_nil, List.cons_append, List.nil_append, List.append_nil, List.replicate, List.getElem?_cons_zero, List.getElem?_cons_succ, List.take_length, Option.map_some, Option.map_none, if_true, if_false, Bool.false_eq_true, Bool.not_true, Bool.not_false, List.any_cons, List.any_nil, Bool.or_false, isTy, List.set_cons_zero, List.set_cons_succ, setTg, wipeE, tgSlots, seqItems, biD, bopD, cmpD, List.zip_cons_cons, List.zip_nil_left, List.zip_nil_right, List.foldl_cons, List.foldl_nil, if_neg, Nat.reduceAdd, Nat.reduceSub, reduceIte, dOf_d, (pair_ix _ _).2]⟩
    unfold prs at this
    rw [List.map_map] at this
    have e2 : ((fun d => match idxD d (PyData.int 1) with | some z => z | none => PyData.none) ∘ fun p : Pn => PyData.tuple [.int 0, .int (p.nm : Int)]) = (fun p : Pn => PyData.int (p.nm : Int)) := by
      funext p
      simp only [Function.comp_apply, (pair_ix _ _).2]
    rw [e2] at this
    exact this
  simp [f_in_order, b_in_order, evSs, evS, v_var, v_int, v_bl, v_non, v_str, v_glb, v_tup, v_lst, v_bop, v_neg, v_cmp, v_chn, v_isN, v_notN, v_land, v_lor, v_lnot, v_ite, v_call, v_bi, v_mth, v_idx, v_slc, v_rev, v_isi, v_lrg1, v_lrg2, evEs, evIfs, evIt, evPar, bind_ok, asB, dOf, dsOf, pureD, ofD, ofB, isNon, exitF, exitV, startE, List.length_cons, List.length_nil, List.map_cons, List.map_nil, List.cons_append, List.nil_append, List.append_nil, List.replicate, List.getElem?_cons_zero, List.getElem?_cons_succ, List.take_length, Option.map_some, Option.map_none, if_true, if_false, Bool.false_eq_true, Bool.not_true, Bool.not_false, List.any_cons, List.any_nil, Bool.or_false, isTy, List.set_cons_zero, List.set_cons_succ, setTg, wipeE, tgSlots, seqItems, biD, bopD, cmpD, List.zip_cons_cons, List.zip_nil_left, List.zip_nil_right, List.foldl_cons, List.foldl_nil, if_neg, Nat.reduceAdd, Nat.reduceSub, reduceIte, q1]
theorem c_in_orderK (hn : 1 ≤ n) (F : Flat ps) : Cn n 21 [.d (pl ps), .d (.int ((k + 1 : Nat) : Int))] m = .ok (.d (.list [])) m := by
  obtain ⟨n, rfl⟩ := up1 hn
  rw [call_def (fn := f_in_order) rfl rfl]
  have hl := pl_len F
  have hk : ((0 : Int) == ((k + 1 : Nat) : Int)) = false := by
    have : ¬ (0 : Int) = ((k + 1 : Nat) : Int) := by omega
    simpa using this
  generalize ((k + 1 : Nat) : Int) = K at *
  have q0 : evE (Cn n) (Gc csts) q_in_order_0 [some (.d (pl ps)), some (.d (.int K)), none] m = .ok (.d (.list [])) m := by
    have := comp_if (Φ := Cn n) (G := Gc csts) (env := [some (.d (pl ps)), some (.d (.int K)), none]) (m := m) (elt := .tup [.idx (.var 2) (.int 3), .idx (.var 2) (.int 0)]) (c := .cmp .eq (.idx (.var 2) (.int 1)) (.var 1)) (tg := .one 2) (it := .seq (.var 0)) (items := (g0 :: ps).map Pn.d) (fun _ => false) id (by simp [evSs, evS, v_var, v_int, v_bl, v_non, v_str, v_glb, v_tup, v_lst, v_bop, v_neg, v_cmp, v_chn, v_isN, v_notN, v_land, v_lor, v_lnot, v_ite, v_call, v_bi, v_mth, v_idx, v_slc, v_rev, v_isi, v_lrg1, v_lrg2, evEs, evIfs, evIt, evPar, bind_ok, asB, dOf, dsOf, pureD, ofD, ofB, isNon, exitF, exitV, startE, List.length_cons, List.length_nil, List.map_cons, List.map_nil, List.cons_append, List.nil_append, List.append_nil, List.replicate, List.getElem?_cons_zero, List.getElem?_cons_succ, List.take_length, Option.map_some, Option.map_none, if_true, if_false, Bool.false_eq_true, Bool.not_true, Bool.not_false, List.any_cons, List.any_nil, Bool.or_false, isTy, List.set_cons_zero, List.set_cons_succ, setTg, wipeE, tgSlots, seqItems, biD, bopD, cmpD, List.zip_cons_cons, List.zip_nil_left, List.zip_nil_right, List.foldl_cons, List.foldl_nil, if_neg, Nat.reduceAdd, Nat.reduceSub, reduceIte, pl]) (szl (by omega)) fun x hx acc => by
      obtain ⟨p, hp, rfl⟩ := PL_mem hx
      obtain ⟨i0, i1, i2, i3, i4⟩ := pd_ix p
      rcases (in_L F hp).2 with hu | hu
      · rw [hu] at i1
        have i1 : idxD p.d (.int 1) = some .none := i1
        exact ⟨_, rfl, by simp [evSs, evS, v_var, v_int, v_bl, v_non, v_str, v_glb, v_tup, v_lst, v_bop, v_neg, v_cmp, v_chn, v_isN, v_notN, v_land, v_lor, v_lnot, v_ite, v_call, v_bi, v_mth, v_idx, v_slc, v_rev, v_isi, v_lrg1, v_lrg2, evEs, evIfs, evIt, evPar, bind_ok, asB, dOf, dsOf, pureD, ofD, ofB, isNon, exitF, exitV, startE, List.length_cons, List.length_nil, List.map_cons, List.map_nil, List.cons_append, List.nil_append, List.append_nil, List.replicate, List.getElem?_cons_zero, List.getElem?_cons_succ, List.take_length, Option.map_some, Option.map_none, if_true, if_false, Bool.false_eq_true, Bool.not_true, Bool.not_false, List.any_cons, List.any_nil, Bool.or_false, isTy, List.set_cons_zero, List.set_cons_succ, setTg, wipeE, tgSlots, seqItems, biD, bopD, List.zip_cons_cons, List.zip_nil_left, List.zip_nil_right, List.foldl_cons, List.foldl_nil, if_neg, Nat.reduceAdd, Nat.reduceSub, reduceIte, dOf_d, i1, eq_nonI], fun h => by cases h⟩
      · rw [hu] at i1
        have i1 : idxD p.d (.int 1) = some (.int 0) := i1
        exact ⟨_, rfl, by simp only [evSs, evS, v_var, v_int, v_bl, v_non, v_str, v_glb, v_tup, v_lst, v_bop, v_neg, v_cmp, v_chn, v_isN, v_notN, v_land, v_lor, v_lnot, v_ite, v_call, v_bi, v_mth, v_idx, v_slc, v_rev, v_isi, v_lrg1, v_lrg2, evEs, evIfs, evIt, evPar, bind_ok, asB, dOf, dsOf, pureD, ofD, ofB, isNon, exitF, exitV, startE, List.length_cons, List.length_nil, List.map_cons, List.map_nil, List.cons_append, List.nil_append, List.append_nil, List.replicate, List.getElem?_cons_zero, List.getElem?_cons_succ, List.take_length, Option.map_some, Option.map_none, if_true, if_false, Bool.false_eq_true, Bool.not_true, Bool.not_false, List.any_cons, List.any_nil, Bool.or_false, isTy, List.set_cons_zero, List.set_cons_succ, setTg, wipeE, tgSlots, seqItems, biD, bopD, List.zip_cons_cons, List.zip_nil_left, List.zip_nil_right, List.foldl_cons, List.foldl_nil, if_neg, Nat.reduceAdd, Nat.reduceSub, reduceIte, dOf_d, i1, cmp_eqI, hk], fun h => by cases h⟩
    rw [filt_no] at this
    exact this
  have so : sortD [] = some [] := by simp [sortD, intsOf]
  have q1 : evE (Cn n) (Gc csts) q_in_order_1 [some (.d (pl ps)), some (.d (.int K)), none] m = .ok (.d (.list [])) m :=
    comp_map (items := []) (fun _ => .none) (by simp [evSs, evS, v_var, v_int, v_bl, v_non, v_str, v_glb, v_tup, v_lst, v_bop, v_neg, v_cmp, v_chn, v_isN, v_notN, v_land, v_lor, v_lnot, v_ite, v_call, v_bi, v_mth, v_idx, v_slc, v_rev, v_isi, v_lrg1, v_lrg2, evEs, evIfs, evIt, evPar, bind_ok, asB, dOf, dsOf, pureD, ofD, ofB, isNon, exitF, exitV, startE, List.length_cons, List.length_nil, List.map_cons, List.map_nil, List.cons_append, List.nil_append, List.append_nil, List.replicate, List.getElem?_cons_zero, List.getElem?_cons_succ, List.take_length, Option.map_some, Option.map_none, if_true, if_false, Bool.false_eq_true, Bool.not_true, Bool.not_false, List.any_cons, List.any_nil, Bool.or_false, isTy, List.set_cons_zero, List.set_cons_succ, setTg, wipeE, tgSlots, seqItems, biD, bopD, cmpD, List.zip_cons_cons, List.zip_nil_left, List.zip_nil_right, List.foldl_cons, List.foldl_nil, if_neg, Nat.reduceAdd, Nat.reduceSub, reduceIte, q0, so]) (szl (by simp)) fun x hx acc => by simp at hx
  simp [f_in_order, b_in_order, evSs, evS, v_var, v_int, v_bl, v_non, v_str, v_glb, v_tup, v_lst, v_bop, v_neg, v_cmp, v_chn, v_isN, v_notN, v_land, v_lor, v_lnot, v_ite, v_call, v_bi, v_mth, v_idx, v_slc, v_rev, v_isi, v_lrg1, v_lrg2, evEs, evIfs, evIt, evPar, bind_ok, asB, dOf, dsOf, pureD, ofD, ofB, isNon, exitF, exitV, startE, List.length_cons, List.length_nil, List.map_cons, List.map_nil, List.cons_append, List.nil_append, List.append_nil, List.replicate, List.getElem?_cons_zero, List.getElem?_cons_succ, List.take_length, Option.map_some, Option.map_none, if_true, if_false, Bool.false_eq_true, Bool.not_true, Bool.not_false, List.any_cons, List.any_nil, Bool.or_false, isTy, List.set_cons_zero, List.set_cons_succ, setTg, wipeE, tgSlots, seqItems, biD, bopD, cmpD, List.zip_cons_cons, List.zip_nil_left, List.zip_nil_right, List.foldl_cons, List.foldl_nil, if_neg, Nat.reduceAdd, Nat.reduceSub, reduceIte, q1]
end
end k19
end Kp
end

section
set_option Elab.async false
set_option linter.all false
set_option maxRecDepth 100000
set_option maxHeartbeats 4000077
namespace Kp
namespace k19
open PySem
section
variable {ps : List Pn} {n : Nat} {m : Store} {k : Nat} {P : Pn}
theorem nms_get (F : Flat ps) {i : Nat} (h : i < ps.length) : (nms ps)[i]? = some (.int ((i + 1 : Nat) : Int)) := by
  unfold nms
  rw [List.getElem?_map, List.getElem?_eq_getElem h]
  have := F.nm (i + 1) ps[i] (by simp)
  simp only [Option.map_some, this]
theorem nms_len : (nms ps).length = ps.length := by simp [nms]
theorem nms_can : ∀ d ∈ nms ps, d.canLay0 = true ∧ d.depth ≤ 5 := fun d hd => by
  obtain ⟨p, _, rfl⟩ := List.mem_map.mp hd
  simp [PyData.canLay0, PyData.depth]
/-- one turn of the walk -/
theorem walk_turn {line left : List D} {here : D} {h : Option Val} {more : List D} (hl : line.length ≤ 100) (hm : left.length + more.length ≤ 200) (hc : Cn n 21 [.d (pl ps), .d here] (m ++ [.lst (line ++ [here]), .lst left]) = .ok (.d (.list more)) (m ++ [.lst (line ++ [here]), .lst left])) :
    evSs (Cn n) (Gc csts) [.set 4 (.mth .pop (.var 3) []), .exp (.mth .append (.var 2) [.var 4]), .exp (.mth .extend (.var 3) [.rev (.call 21 [.var 0, .var 4])])] [some (.d (pl ps)), some (.d (.int 0)), some (.loc m.length), some (.loc (m.length + 1)), h] (m ++ [.lst line, .lst (left ++ [here])]) =
      .ok (.next [some (.d (pl ps)), some (.d (.int 0)), some (.loc m.length), some (.loc (m.length + 1)), some (.d here)]) (m ++ [.lst (line ++ [here]), .lst (left ++ more.reverse)]) := by
  have z1 : line.length < sizeLine := by rw [sizeLine_eq]; omega
  have z2 : left.length + more.reverse.length ≤ sizeLine := by rw [List.length_reverse, sizeLine_eq]; omega
  have d1 : dOf (.loc (m.length + 1)) (m ++ [.lst line, .lst (left ++ [here])]) = some (.list (left ++ [here])) := by simp only [dOf, get2b]
  have d2 : dOf (.loc m.length) (m ++ [.lst line, .lst left]) = some (.list line) := by simp only [dOf, get2a]
  have d3 : dOf (.loc (m.length + 1)) (m ++ [.lst (line ++ [here]), .lst left]) = some (.list left) := by simp only [dOf, get2b]
  have r1 : recvOk .pop (.loc (m.length + 1)) (m ++ [.lst line, .lst (left ++ [here])]) = true := by simp only [recvOk, d1]
  have r2 : recvOk .append (.loc m.length) (m ++ [.lst line, .lst left]) = true := by simp only [recvOk, d2]
  have r3 : recvOk .extend (.loc (m.length + 1)) (m ++ [.lst (line ++ [here]), .lst left]) = true := by simp only [recvOk, d3]
  have p1 : mthV .pop (.loc (m.length + 1)) [] (m ++ [.lst line, .lst (left ++ [here])]) = .ok (.d here) (m ++ [.lst line, .lst left]) := by
    simp only [mthV, get2b, List.getLast?_append, List.getLast?_singleton, Option.some_or, set2b, List.dropLast_concat]
  have p2 : mthV .append (.loc m.length) [here] (m ++ [.lst line, .lst left]) = .ok (.d .none) (m ++ [.lst (line ++ [here]), .lst left]) := by
    simp only [mthV, get2a, if_pos z1, set2a]
  have p3 : mthV .extend (.loc (m.length + 1)) [.list more.reverse] (m ++ [.lst (line ++ [here]), .lst left]) = .ok (.d .none) (m ++ [.lst (line ++ [here]), .lst (left ++ more.reverse)]) := by
    simp only [mthV, get2b, if_pos z2, set2b]
  simp only [evSs, evS, v_mth, v_var, List.getElem?_cons_zero, List.getElem?_cons_succ, bind_ok, r1, if_true, evEs, dsOf, reduceCtorEq, if_false, p1, List.set_cons_zero, List.set_cons_succ, r2, pureD, Option.map_some, p2, r3, v_rev, v_call, hc, dOf_d, revD, ofD, p3]
theorem c_walked (hn : 2 ≤ n) (F : Flat ps) : Cn n 22 [.d (pl ps), .d (.int 0)] m = .ok (.d (.list (.int 0 :: nms ps))) m := by
  obtain ⟨n, rfl⟩ := up1 (by omega : 1 ≤ n)
  rw [call_def (fn := f_walked) rfl rfl]
  have l1 := F.len
  have ln : (nms ps).length = ps.length := nms_len
  have wh := while_ok (c := fun env m => (evE (Cn n) (Gc csts) (.cmp .ne (.var 3) (.lst [])) env m).bind asB) (b := fun env m => evSs (Cn n) (Gc csts) [.set 4 (.mth .pop (.var 3) []), .exp (.mth .append (.var 2) [.var 4]), .exp (.mth .extend (.var 3) [.rev (.call 21 [.var 0, .var 4])])] env m)
    (fun q env m' => (q = ps.length + 1 ∧ env = [some (.d (pl ps)), some (.d (.int 0)), some (.loc m.length), some (.loc (m.length + 1)), none] ∧ m' = m ++ [.lst [], .lst [.int 0]]) ∨
      (q ≤ ps.length ∧ ∃ h, env = [some (.d (pl ps)), some (.d (.int 0)), some (.loc m.length), some (.loc (m.length + 1)), h] ∧ m' = m ++ [.lst (.int 0 :: (nms ps).take (ps.length - q)), .lst ((nms ps).drop (ps.length - q)).reverse]))
    (fun q env m' hI => ?_) (fun env m' hI => ?_) (ps.length + 1) whileN [some (.d (pl ps)), some (.d (.int 0)), some (.loc m.length), some (.loc (m.length + 1)), none] (m ++ [.lst [], .lst [.int 0]]) (by have : whileN = 100000 := rfl; omega) (.inl ⟨rfl, rfl, rfl⟩)
  · obtain ⟨env', m', e1, e2⟩ := wh
    rcases e2 with ⟨h, _⟩ | ⟨_, h, rfl, rfl⟩
    · omega
    · have ew : evS (Cn n) (Gc csts) w_walked_0 [some (.d (pl ps)), some (.d (.int 0)), some (.loc m.length), some (.loc (m.length + 1)), none] (m ++ [.lst [], .lst [.int 0]]) = .ok (.next [some (.d (pl ps)), some (.d (.int 0)), some (.loc m.length), some (.loc (m.length + 1)), h]) (m ++ [.lst (.int 0 :: nms ps), .lst []]) := by
        have t1 : (nms ps).take (ps.length - 0) = nms ps := List.take_of_length_le (by omega)
        have t2 : ((nms ps).drop (ps.length - 0)).reverse = [] := by rw [List.drop_of_length_le (by omega)]; rfl
        rw [t1, t2] at e1
        simp only [w_walked_0, s_whl]
        exact e1
      have S1 : evS (Cn n) (Gc csts) (.setM 2 (.lst [])) [some (.d (pl ps)), some (.d (.int 0)), none, none, none] m = .ok (.next [some (.d (pl ps)), some (.d (.int 0)), some (.loc m.length), none, none]) (m ++ [.lst []]) := by
        simp [evS, v_lst, evEs, pureD, ofD, thaw_l]
      have S2 : evS (Cn n) (Gc csts) (.setM 3 (.lst [.var 1])) [some (.d (pl ps)), some (.d (.int 0)), some (.loc m.length), none, none] (m ++ [.lst []]) = .ok (.next [some (.d (pl ps)), some (.d (.int 0)), some (.loc m.length), some (.loc (m.length + 1)), none]) (m ++ [.lst [], .lst [.int 0]]) := by
        simp [evS, v_lst, evEs, v_var, pureD, ofD, thaw_l]
      simp only [f_walked, b_walked, startE, List.map_cons, List.map_nil, List.length_cons, List.length_nil, List.replicate, List.cons_append, List.nil_append, Nat.reduceAdd, Nat.reduceSub, evSs, S1, S2, ew, bind_ok]
      simp [evS, v_var, exitF, exitV, get2a]
  · -- a turn
    have cnd : ∀ (h : Option Val) (line left : List D), left ≠ [] → (∀ d ∈ left, d.canLay0 = true ∧ d.depth ≤ 5) → (evE (Cn n) (Gc csts) (.cmp .ne (.var 3) (.lst [])) [some (.d (pl ps)), some (.d (.int 0)), some (.loc m.length), some (.loc (m.length + 1)), h] (m ++ [.lst line, .lst left])).bind asB = .ok true (m ++ [.lst line, .lst left]) := by
      intro h line left hne hcan
      have d1 : dOf (.loc (m.length + 1)) (m ++ [.lst line, .lst left]) = some (.list left) := by simp only [dOf, get2b]
      simp only [v_cmp, v_var, List.getElem?_cons_zero, List.getElem?_cons_succ, bind_ok, v_lst, evEs, pureD, Option.map_some, ofD, dOf_d, d1, ne_nil hne (by omega : (5 : Nat) ≤ 63) hcan, ofB, asB]
    rcases hI with ⟨hq, rfl, rfl⟩ | ⟨hq, h, rfl, rfl⟩
    · have hq : q = ps.length := by omega
      subst hq
      refine ⟨cnd _ _ _ (by simp) (fun d hd => by
        have : d = .int 0 := by simpa using hd
        subst this
        simp [PyData.canLay0, PyData.depth]), _, _, walk_turn (line := []) (left := []) (here := .int 0) (more := nms ps) (by simp) (by simp; omega) (c_in_order0 (by omega : 1 ≤ n) F), .inr ⟨Nat.le_refl _, some (.d (.int 0)), rfl, ?_⟩⟩
      simp
    · have hlt : ps.length - (q + 1) < ps.length := by omega
      have hg := nms_get F hlt
      have hg2 : (nms ps)[ps.length - (q + 1)]'(by omega) = .int ((ps.length - (q + 1) + 1 : Nat) : Int) := by
        have := List.getElem?_eq_getElem (l := nms ps) (i := ps.length - (q + 1)) (by omega)
        rw [this] at hg
        exact Option.some.inj hg
      have e3 : ((nms ps).drop (ps.length - (q + 1))).reverse = ((nms ps).drop (ps.length - q)).reverse ++ [.int ((ps.length - (q + 1) + 1 : Nat) : Int)] := by
        rw [List.drop_eq_getElem_cons (by omega), List.reverse_cons, hg2]
        have : ps.length - (q + 1) + 1 = ps.length - q := by omega
        rw [this]
      have e4 : (nms ps).take (ps.length - (q + 1)) ++ [.int ((ps.length - (q + 1) + 1 : Nat) : Int)] = (nms ps).take (ps.length - q) := by
        have : ps.length - q = ps.length - (q + 1) + 1 := by omega
        rw [this, List.take_add_one, hg]
        rfl
      rw [e3]
      have hlen1 : ((nms ps).take (ps.length - (q + 1))).length ≤ 40 := by rw [List.length_take]; omega
      have hlen2 : ((nms ps).drop (ps.length - q)).reverse.length ≤ 40 := by rw [List.length_reverse, List.length_drop]; omega
      refine ⟨cnd _ _ _ (by simp) (fun d hd => ?_), _, _, walk_turn (line := .int 0 :: (nms ps).take (ps.length - (q + 1))) (left := ((nms ps).drop (ps.length - q)).reverse) (here := .int ((ps.length - (q + 1) + 1 : Nat) : Int)) (more := []) (by simp only [List.length_cons]; omega) (by simp only [List.length_nil]; omega) (c_in_orderK (by omega : 1 ≤ n) F), .inr ⟨by omega, some (.d _), rfl, ?_⟩⟩
      · rw [← e3] at hd
        exact nms_can d (List.mem_of_mem_drop (List.mem_reverse.mp hd))
      · rw [List.cons_append, e4, List.reverse_nil, List.append_nil]
  · rcases hI with ⟨h, _⟩ | ⟨_, h, rfl, rfl⟩
    · omega
    · have t2 : ((nms ps).drop (ps.length - 0)).reverse = [] := by rw [List.drop_of_length_le (by omega)]; rfl
      have d1 : dOf (.loc (m.length + 1)) (m ++ [.lst (.int 0 :: (nms ps).take (ps.length - 0)), .lst []]) = some (.list []) := by simp only [dOf, get2b]
      rw [t2]
      simp only [v_cmp, v_var, List.getElem?_cons_zero, List.getElem?_cons_succ, bind_ok, v_lst, evEs, pureD, Option.map_some, ofD, dOf_d, d1, nil_ne, ofB, asB]
end
end k19
end Kp
end

section
set_option Elab.async false
set_option linter.all false
set_option maxRecDepth 100000
set_option maxHeartbeats 4000077
namespace Kp
namespace k19
open PySem
section
variable {ps : List Pn} {n : Nat} {m : Store} {k : Nat} {P : Pn}
def isZ : D → Bool
  | .int i => decide (i = 0)
  | _ => false
theorem nms_mem (F : Flat ps) {x : D} (hx : x ∈ nms ps) : ∃ (j : Nat) (p : Pn), x = .int ((j + 1 : Nat) : Int) ∧ (g0 :: ps)[j + 1]? = some p ∧ p ∈ ps := by
  obtain ⟨p, hp, rfl⟩ := List.mem_map.mp hx
  obtain ⟨j, hj⟩ := List.mem_iff_getElem?.mp hp
  have h2 : (g0 :: ps)[j + 1]? = some p := by simpa using hj
  exact ⟨j, p, by rw [F.nm (j + 1) p h2], h2, hp⟩
theorem no_stop0 : cmpD .inn (.str "stop") (mkD g0) = some false := by kernel_rfl
theorem c_stops_in (hn : 6 ≤ n) (F : Flat ps) : Cn n 30 [.d (pl ps), .d (.int 0)] m = .ok (.d (.list (nms ps))) m := by
  obtain ⟨n, rfl⟩ := up1 (by omega : 1 ≤ n)
  rw [call_def (fn := f_stops_in) rfl rfl]
  have l1 := F.len
  have hw := c_walked (m := m) (by omega : 2 ≤ n) F
  have q0 : evE (Cn n) (Gc csts) q_stops_in_0 [some (.d (pl ps)), some (.d (.int 0)), none] m = .ok (.d (.list (nms ps))) m := by
    have := comp_if (Φ := Cn n) (G := Gc csts) (env := [some (.d (pl ps)), some (.d (.int 0)), none]) (m := m) (elt := .var 2) (c := .land (.cmp .inn (.str "stop") (.idx (.call 19 [.var 0, .var 2]) (.int 4))) (.call 26 [.var 0, .var 2])) (tg := .one 2) (it := .seq (.call 22 [.var 0, .var 1])) (items := .int 0 :: nms ps) (fun d => !isZ d) id (by simp [evSs, evS, v_var, v_int, v_bl, v_non, v_str, v_glb, v_tup, v_lst, v_bop, v_neg, v_cmp, v_chn, v_isN, v_notN, v_land, v_lor, v_lnot, v_ite, v_call, v_bi, v_mth, v_idx, v_slc, v_rev, v_isi, v_lrg1, v_lrg2, evEs, evIfs, evIt, evPar, bind_ok, asB, dOf, dsOf, pureD, ofD, ofB, isNon, exitF, exitV, startE, List.length_cons, List.length_nil, List.map_cons, List.map_nil, List.cons_append, List.nil_append, List.append_nil, List.replicate, List.getElem?_cons_zero, List.getElem?_cons_succ, List.take_length, Option.map_some, Option.map_none, if_true, if_false, Bool.false_eq_true, Bool.not_true, Bool.not_false, List.any_cons, List.any_nil, Bool.or_false, isTy, List.set_cons_zero, List.set_cons_succ, setTg, wipeE, tgSlots, seqItems, biD, bopD, cmpD, List.zip_cons_cons, List.zip_nil_left, List.zip_nil_right, List.foldl_cons, List.foldl_nil, if_neg, Nat.reduceAdd, Nat.reduceSub, reduceIte, hw]) (szl (by simp [nms]; omega)) fun x hx acc => by
      rcases List.mem_cons.mp hx with rfl | hx
      · have h1 : Cn n 19 [.d (pl ps), .d (.int 0)] (m ++ [.lst acc]) = .ok (.d g0.d) (m ++ [.lst acc]) := c_the_pane (k := 0) (by omega : 1 ≤ n) F rfl
        have i4 : idxD g0.d (.int 4) = some (mkD g0) := (pd_ix g0).2.2.2.2
        exact ⟨_, rfl, by simp [evSs, evS, v_var, v_int, v_bl, v_non, v_str, v_glb, v_tup, v_lst, v_bop, v_neg, v_cmp, v_chn, v_isN, v_notN, v_land, v_lor, v_lnot, v_ite, v_call, v_bi, v_mth, v_idx, v_slc, v_rev, v_isi, v_lrg1, v_lrg2, evEs, evIfs, evIt, evPar, bind_ok, asB, dOf, dsOf, pureD, ofD, ofB, isNon, exitF, exitV, startE, List.length_cons, List.length_nil, List.map_cons, List.map_nil, List.cons_append, List.nil_append, List.append_nil, List.replicate, List.getElem?_cons_zero, List.getElem?_cons_succ, List.take_length, Option.map_some, Option.map_none, if_true, if_false, Bool.false_eq_true, Bool.not_true, Bool.not_false, List.any_cons, List.any_nil, Bool.or_false, isTy, List.set_cons_zero, List.set_cons_succ, setTg, wipeE, tgSlots, seqItems, biD, bopD, List.zip_cons_cons, List.zip_nil_left, List.zip_nil_right, List.foldl_cons, List.foldl_nil, if_neg, Nat.reduceAdd, Nat.reduceSub, reduceIte, h1, dOf_d, i4, no_stop0, isZ], fun h => by simp [isZ] at h⟩
      · obtain ⟨j, p, rfl, hj, hp⟩ := nms_mem F hx
        have h1 := c_the_pane (m := m ++ [.lst acc]) (by omega : 1 ≤ n) F hj
        have h2 := c_opens (m := m ++ [.lst acc]) (by omega : 5 ≤ n) F hj
        have i4 : idxD p.d (.int 4) = some (mkD p) := (pd_ix p).2.2.2.2
        have st := stop_mark (F.ok p hp).2.2
        have nz : isZ (.int ((j + 1 : Nat) : Int)) = false := by simp [isZ]; omega
        generalize ((j + 1 : Nat) : Int) = J at *
        exact ⟨_, rfl, by simp [evSs, evS, v_var, v_int, v_bl, v_non, v_str, v_glb, v_tup, v_lst, v_bop, v_neg, v_cmp, v_chn, v_isN, v_notN, v_land, v_lor, v_lnot, v_ite, v_call, v_bi, v_mth, v_idx, v_slc, v_rev, v_isi, v_lrg1, v_lrg2, evEs, evIfs, evIt, evPar, bind_ok, asB, dOf, dsOf, pureD, ofD, ofB, isNon, exitF, exitV, startE, List.length_cons, List.length_nil, List.map_cons, List.map_nil, List.cons_append, List.nil_append, List.append_nil, List.replicate, List.getElem?_cons_zero, List.getElem?_cons_succ, List.take_length, Option.map_some, Option.map_none, if_true, if_false, Bool.false_eq_true, Bool.not_true, Bool.not_false, List.any_cons, List.any_nil, Bool.or_false, isTy, List.set_cons_zero, List.set_cons_succ, setTg, wipeE, tgSlots, seqItems, biD, bopD, List.zip_cons_cons, List.zip_nil_left, List.zip_nil_right, List.foldl_cons, List.foldl_nil, if_neg, Nat.reduceAdd, Nat.reduceSub, reduceIte, h1, h2, dOf_d, i4, st, nz], fun h => by simp [evSs, evS, v_var, v_int, v_bl, v_non, v_str, v_glb, v_tup, v_lst, v_bop, v_neg, v_cmp, v_chn, v_isN, v_notN, v_land, v_lor, v_lnot, v_ite, v_call, v_bi, v_mth, v_idx, v_slc, v_rev, v_isi, v_lrg1, v_lrg2, evEs, evIfs, evIt, evPar, bind_ok, asB, dOf, dsOf, pureD, ofD, ofB, isNon, exitF, exitV, startE, List.length_cons, List.length_nil, List.map_cons, List.map_nil, List.cons_append, List.nil_append, List.append_nil, List.replicate, List.getElem?_cons_zero, List.getElem?_cons_succ, List.take_length, Option.map_some, Option.map_none, if_true, if_false, Bool.false_eq_true, Bool.not_true, Bool.not_false, List.any_cons, List.any_nil, Bool.or_false, isTy, List.set_cons_zero, List.set_cons_succ, setTg, wipeE, tgSlots, seqItems, biD, bopD, cmpD, List.zip_cons_cons, List.zip_nil_left, List.zip_nil_right, List.foldl_cons, List.foldl_nil, if_neg, Nat.reduceAdd, Nat.reduceSub, reduceIte]⟩
    have e : (PyData.int 0 :: nms ps).filter (fun d => !isZ d) = nms ps := by
      rw [List.filter_cons]
      simp only [isZ, decide_true, Bool.not_true, Bool.false_eq_true, if_false]
      rw [List.filter_eq_self]
      intro x hx
      obtain ⟨j, p, rfl, _⟩ := nms_mem F hx
      simp; omega
    rw [e, List.map_id] at this
    exact this
  simp [f_stops_in, b_stops_in, evSs, evS, v_var, v_int, v_bl, v_non, v_str, v_glb, v_tup, v_lst, v_bop, v_neg, v_cmp, v_chn, v_isN, v_notN, v_land, v_lor, v_lnot, v_ite, v_call, v_bi, v_mth, v_idx, v_slc, v_rev, v_isi, v_lrg1, v_lrg2, evEs, evIfs, evIt, evPar, bind_ok, asB, dOf, dsOf, pureD, ofD, ofB, isNon, exitF, exitV, startE, List.length_cons, List.length_nil, List.map_cons, List.map_nil, List.cons_append, List.nil_append, List.append_nil, List.replicate, List.getElem?_cons_zero, List.getElem?_cons_succ, List.take_length, Option.map_some, Option.map_none, if_true, if_false, Bool.false_eq_true, Bool.not_true, Bool.not_false, List.any_cons, List.any_nil, Bool.or_false, isTy, List.set_cons_zero, List.set_cons_succ, setTg, wipeE, tgSlots, seqItems, biD, bopD, cmpD, List.zip_cons_cons, List.zip_nil_left, List.zip_nil_right, List.foldl_cons, List.foldl_nil, if_neg, Nat.reduceAdd, Nat.reduceSub, reduceIte, q0]
theorem c_field_in (hn : 5 ≤ n) (F : Flat ps) (hk : (g0 :: ps)[k + 1]? = some P) : Cn n 31 [.d (pl ps), .d (.int ((k + 1 : Nat) : Int))] m = .ok (.d (.int 0)) m := by
  obtain ⟨n, rfl⟩ := up1 (by omega : 1 ≤ n)
  rw [call_def (fn := f_field_in) rfl rfl]
  have h1 := c_going_up (m := m) (by omega : 1 ≤ n) F hk
  have hu : upsOf (k + 1) = [.int ((k + 1 : Nat) : Int), .int 0] := by simp [upsOf]
  rw [hu] at h1
  have p1 := c_the_pane (m := m) (by omega : 1 ≤ n) F hk
  have p0 : Cn n 19 [.d (pl ps), .d (.int 0)] m = .ok (.d g0.d) m := c_the_pane (k := 0) (m := m) (by omega : 1 ≤ n) F rfl
  have ts := c_top_sheet (m := m) (by omega : 4 ≤ n) F
  have a1 := (no_mark (in_L F (pn_at F hk)).1).2.2.2
  have a0 := (no_mark (p := g0) (.inl rfl)).2.2.2
  have i1 : idxD P.d (.int 4) = some (mkD P) := (pd_ix P).2.2.2.2
  have i0 : idxD g0.d (.int 4) = some (mkD g0) := (pd_ix g0).2.2.2.2
  generalize ((k + 1 : Nat) : Int) = K at *
  have st : ∀ (j : Int) (Q : Pn) a, Cn n 19 [.d (pl ps), .d (.int j)] m = .ok (.d Q.d) m → idxD Q.d (.int 4) = some (mkD Q) → cmpD .inn (.str "hold") (mkD Q) = some false → bodyF (Cn n) (Gc csts) (.one 2) [.ife (.cmp .inn (.str "hold") (.idx (.call 19 [.var 0, .var 2]) (.int 4))) [.ret (.var 2)] []] (.int j) [some (.d (pl ps)), some (.d (.int K)), a] m = .ok (.next [some (.d (pl ps)), some (.d (.int K)), some (.d (.int j))]) m := by
    intro j Q a e1 e2 e3
    rw [body_ok rfl]
    simp [evSs, evS, v_var, v_int, v_bl, v_non, v_str, v_glb, v_tup, v_lst, v_bop, v_neg, v_cmp, v_chn, v_isN, v_notN, v_land, v_lor, v_lnot, v_ite, v_call, v_bi, v_mth, v_idx, v_slc, v_rev, v_isi, v_lrg1, v_lrg2, evEs, evIfs, evIt, evPar, bind_ok, asB, dOf, dsOf, pureD, ofD, ofB, isNon, exitF, exitV, startE, List.length_cons, List.length_nil, List.map_cons, List.map_nil, List.cons_append, List.nil_append, List.append_nil, List.replicate, List.getElem?_cons_zero, List.getElem?_cons_succ, List.take_length, Option.map_some, Option.map_none, if_true, if_false, Bool.false_eq_true, Bool.not_true, Bool.not_false, List.any_cons, List.any_nil, Bool.or_false, isTy, List.set_cons_zero, List.set_cons_succ, setTg, wipeE, tgSlots, seqItems, biD, bopD, List.zip_cons_cons, List.zip_nil_left, List.zip_nil_right, List.foldl_cons, List.foldl_nil, if_neg, Nat.reduceAdd, Nat.reduceSub, reduceIte, e1, e2, e3, dOf_d]
  have lo : evS (Cn n) (Gc csts) l_field_in_0 [some (.d (pl ps)), some (.d (.int K)), none] m = .ok (.next [some (.d (pl ps)), some (.d (.int K)), some (.d (.int 0))]) m := by
    simp only [l_field_in_0, s_for, evIt, v_call, evEs, v_var, List.getElem?_cons_zero, List.getElem?_cons_succ, bind_ok, h1, seqItems, forF]
    rw [st K P _ p1 i1 a1]
    simp only [bind_ok]
    rw [st 0 g0 _ p0 i0 a0]
    rfl
  simp [f_field_in, b_field_in, startE, evSs, lo, evS, v_call, evEs, v_var, ts, exitF, exitV]
/-! the best of all -/
def ent (w : Way) (K : Nat) (o : Option Bx) (q : Pn) : Option E4 := if q.nm = K then none else match o, seenT q with
  | some o, some r => match rk w o r with
    | some (a, f, s) => some ⟨a, f, s, q.nm⟩
    | none => none
  | _, _ => none
def stepB (b e : Option E4) : Option E4 := match e with
  | none => b
  | some e => match b with
    | none => some e
    | some c => if HT.lexLt e.l c.l = true then some e else some c
def best (w : Way) (K : Nat) (o : Option Bx) (l : List Pn) : Option E4 := l.foldl (fun b q => stepB b (ent w K o q)) none
def bestD : Option E4 → D
  | none => .none
  | some e => e.d
def ansD : Option E4 → D
  | none => .none
  | some e => .int e.j
theorem isN_t {l : List D} : isNon (.d (.tuple l)) = false := rfl
theorem lt_E4 (e c : E4) : cmpD .lt e.d c.d = some (HT.lexLt e.l c.l) := by
  simp [cmpD, ltD, E4.d, intsOf, E4.l]
theorem c_aimed (hn : 7 ≤ n) (F : Flat ps) (w : Way) (hk : (g0 :: ps)[k + 1]? = some P) : Cn n 36 [.d (pl ps), .d (.int ((k + 1 : Nat) : Int)), .d (.str w.s)] m = .ok (.d (ansD (best w (k + 1) (seenT P) ps))) m := by
  obtain ⟨n, rfl⟩ := up1 (by omega : 1 ≤ n)
  rw [call_def (fn := f_aimed) rfl rfl]
  have l1 := F.len
  have so : ∀ (j : Nat) (Q : Pn), (g0 :: ps)[j + 1]? = some Q → Cn n 33 [.d (pl ps), .d (.int ((j + 1 : Nat) : Int))] m = .ok (.d (spansD Q)) m := fun j Q h => c_spans_of (m := m) (by omega : 4 ≤ n) F h
  have own := so k P hk
  have fi := c_field_in (m := m) (by omega : 5 ≤ n) F hk
  have st := c_stops_in (m := m) (by omega : 6 ≤ n) F
  have rkk : ∀ (o r : Bx), Cn n 35 [.d (spD o), .d (spD r), .d (.str w.s)] m = .ok (.d (rkD w o r)) m := fun o r => c_rank_of (m := m) (by omega : 2 ≤ n) w o r
  have loop := for_ok (b := bodyF (Cn n) (Gc csts) (.one 5) [.set 6 (.call 33 [.var 0, .var 5]), .ife (.land (.notN (.var 3)) (.land (.notN (.var 6)) (.cmp .ne (.var 5) (.var 1)))) [.set 7 (.call 35 [.var 3, .var 6, .var 2]), .ife (.land (.notN (.var 7)) (.lor (.isN (.var 4)) (.cmp .lt (.bop .add (.var 7) (.tup [.var 5])) (.var 4)))) [.set 4 (.bop .add (.var 7) (.tup [.var 5]))] []] []])
    (fun i env m' => m' = m ∧ ∃ a b c, env = [some (.d (pl ps)), some (.d (.int ((k + 1 : Nat) : Int))), some (.d (.str w.s)), some (.d (spansD P)), some (.d (bestD (best w (k + 1) (seenT P) (ps.take i)))), a, b, c])
    (nms ps) 0 [some (.d (pl ps)), some (.d (.int ((k + 1 : Nat) : Int))), some (.d (.str w.s)), some (.d (spansD P)), some (.d .none), none, none, none] m ⟨rfl, none, none, none, rfl⟩ (fun i x env m' hx hI => ?_)
  · obtain ⟨env', m', e1, e2, a, b, c, rfl⟩ := loop
    subst e2
    rw [Nat.zero_add, nms_len, List.take_length] at e1
    have lo : evS (Cn n) (Gc csts) l_aimed_0 [some (.d (pl ps)), some (.d (.int ((k + 1 : Nat) : Int))), some (.d (.str w.s)), some (.d (spansD P)), some (.d .none), none, none, none] m' = .ok (.next [some (.d (pl ps)), some (.d (.int ((k + 1 : Nat) : Int))), some (.d (.str w.s)), some (.d (spansD P)), some (.d (bestD (best w (k + 1) (seenT P) ps))), a, b, c]) m' := by
      simp only [l_aimed_0, s_for, evIt, v_call, evEs, v_var, List.getElem?_cons_zero, List.getElem?_cons_succ, bind_ok, fi, st, seqItems]
      exact e1
    generalize ((k + 1 : Nat) : Int) = K at *
    simp only [f_aimed, b_aimed, startE, List.map_cons, List.map_nil, List.length_cons, List.length_nil, List.replicate, List.cons_append, List.nil_append, Nat.reduceAdd, Nat.reduceSub, evSs]
    simp only [evS, v_call, evEs, v_var, List.getElem?_cons_zero, List.getElem?_cons_succ, bind_ok, own, List.set_cons_zero, List.set_cons_succ, v_non, lo, v_isN]
    cases best w (k + 1) (seenT P) ps with
    | none => simp [bestD, ansD, isNon, asB, evSs, evS, v_non, exitF, exitV]
    | some e =>
      have ix : idxD e.d (.int (-1)) = some (.int e.j) := by simp [E4.d, idxD, L2.atI, L2.ixN]
      have nn : isNon (.d e.d) = false := rfl
      simp [bestD, ansD, nn, asB, evSs, evS, v_idx, v_var, v_neg, v_int, dOf_d, ix, ofD, exitF, exitV]
  · rw [Nat.zero_add] at hI ⊢
    obtain ⟨rfl, a, b, c, rfl⟩ := hI
    have hi : i < ps.length := by
      have := (List.getElem?_eq_some_iff.mp hx).1
      rwa [nms_len] at this
    have hq : (g0 :: ps)[i + 1]? = some ps[i] := by simp
    have hnm := F.nm (i + 1) ps[i] hq
    have hx2 : x = .int ((i + 1 : Nat) : Int) := by
      rw [nms_get F hi] at hx
      exact (Option.some.inj hx).symm
    subst hx2
    have tk : ps.take (i + 1) = ps.take i ++ [ps[i]] := by
      rw [List.take_add_one, List.getElem?_eq_getElem hi]; rfl
    have bst : best w (k + 1) (seenT P) (ps.take (i + 1)) = stepB (best w (k + 1) (seenT P) (ps.take i)) (ent w (k + 1) (seenT P) ps[i]) := by
      unfold best
      rw [tk, List.foldl_append]; rfl
    rw [bst]
    have sq := so i ps[i] hq
    have nee : cmpD .ne (.int ((i + 1 : Nat) : Int)) (.int ((k + 1 : Nat) : Int)) = some (!decide (ps[i].nm = k + 1)) := by
      rw [cmp_neI, hnm]
      congr 2
      have : (((i + 1 : Nat) : Int) == ((k + 1 : Nat) : Int)) = decide (i + 1 = k + 1) := by
        rw [Bool.eq_iff_iff]; simp; omega
      rw [this]
    have hj : ((ps[i].nm : Nat) : Int) = ((i + 1 : Nat) : Int) := by rw [hnm]
    unfold ent
    rw [body_ok rfl]
    generalize best w (k + 1) (seenT P) (ps.take i) = bb
    generalize hI : ((i + 1 : Nat) : Int) = I at *
    generalize ((k + 1 : Nat) : Int) = K at *
    unfold spansD at own sq ⊢
    cases hP : seenT P with
    | none =>
      refine ⟨_, m', ?_, rfl, some (.d (.int I)), some (.d (spansD ps[i])), c, rfl⟩
      unfold spansD
      rw [hP] at own
      by_cases he : ps[i].nm = k + 1 <;> simp [evSs, evS, v_var, v_int, v_bl, v_non, v_str, v_glb, v_tup, v_lst, v_bop, v_neg, v_cmp, v_chn, v_isN, v_notN, v_land, v_lor, v_lnot, v_ite, v_call, v_bi, v_mth, v_idx, v_slc, v_rev, v_isi, v_lrg1, v_lrg2, evEs, evIfs, evIt, evPar, bind_ok, asB, dOf, dsOf, pureD, ofD, ofB, isNon, exitF, exitV, startE, List.length_cons, List.length_nil, List.map_cons, List.map_nil, List.cons_append, List.nil_append, List.append_nil, List.replicate, List.getElem?_cons_zero, List.getElem?_cons_succ, List.take_length, Option.map_some, Option.map_none, if_true, if_false, Bool.false_eq_true, Bool.not_true, Bool.not_false, List.any_cons, List.any_nil, Bool.or_false, isTy, List.set_cons_zero, List.set_cons_succ, setTg, wipeE, tgSlots, seqItems, biD, bopD, List.zip_cons_cons, List.zip_nil_left, List.zip_nil_right, List.foldl_cons, List.foldl_nil, if_neg, Nat.reduceAdd, Nat.reduceSub, reduceIte, sq, isNon, he, stepB]
    | some o =>
      cases hQ : seenT ps[i] with
      | none =>
        rw [hQ] at sq
        refine ⟨_, m', ?_, rfl, some (.d (.int I)), some (.d .none), c, rfl⟩
        by_cases he : ps[i].nm = k + 1 <;> simp [evSs, evS, v_var, v_int, v_bl, v_non, v_str, v_glb, v_tup, v_lst, v_bop, v_neg, v_cmp, v_chn, v_isN, v_notN, v_land, v_lor, v_lnot, v_ite, v_call, v_bi, v_mth, v_idx, v_slc, v_rev, v_isi, v_lrg1, v_lrg2, evEs, evIfs, evIt, evPar, bind_ok, asB, dOf, dsOf, pureD, ofD, ofB, isNon, exitF, exitV, startE, List.length_cons, List.length_nil, List.map_cons, List.map_nil, List.cons_append, List.nil_append, List.append_nil, List.replicate, List.getElem?_cons_zero, List.getElem?_cons_succ, List.take_length, Option.map_some, Option.map_none, if_true, if_false, Bool.false_eq_true, Bool.not_true, Bool.not_false, List.any_cons, List.any_nil, Bool.or_false, isTy, List.set_cons_zero, List.set_cons_succ, setTg, wipeE, tgSlots, seqItems, biD, bopD, List.zip_cons_cons, List.zip_nil_left, List.zip_nil_right, List.foldl_cons, List.foldl_nil, if_neg, Nat.reduceAdd, Nat.reduceSub, reduceIte, sq, isNon, he, stepB]
      | some r =>
        rw [hQ] at sq
        by_cases he : ps[i].nm = k + 1
        · refine ⟨_, m', ?_, rfl, some (.d (.int I)), some (.d (spD r)), c, rfl⟩
          rw [decide_eq_true he] at nee
          simp [evSs, evS, v_var, v_int, v_bl, v_non, v_str, v_glb, v_tup, v_lst, v_bop, v_neg, v_cmp, v_chn, v_isN, v_notN, v_land, v_lor, v_lnot, v_ite, v_call, v_bi, v_mth, v_idx, v_slc, v_rev, v_isi, v_lrg1, v_lrg2, evEs, evIfs, evIt, evPar, bind_ok, asB, dOf, dsOf, pureD, ofD, ofB, isNon, exitF, exitV, startE, List.length_cons, List.length_nil, List.map_cons, List.map_nil, List.cons_append, List.nil_append, List.append_nil, List.replicate, List.getElem?_cons_zero, List.getElem?_cons_succ, List.take_length, Option.map_some, Option.map_none, if_true, if_false, Bool.false_eq_true, Bool.not_true, Bool.not_false, List.any_cons, List.any_nil, Bool.or_false, isTy, List.set_cons_zero, List.set_cons_succ, setTg, wipeE, tgSlots, seqItems, biD, bopD, List.zip_cons_cons, List.zip_nil_left, List.zip_nil_right, List.foldl_cons, List.foldl_nil, if_neg, Nat.reduceAdd, Nat.reduceSub, reduceIte, sq, isNon, he, stepB, dOf_d, nee, spD]
        · rw [decide_eq_false he] at nee
          have rr := rkk o r
          unfold spD at rr
          unfold rkD at rr
          cases hr : rk w o r with
          | none =>
            rw [hr] at rr
            refine ⟨_, m', ?_, rfl, some (.d (.int I)), some (.d (spD r)), some (.d .none), rfl⟩
            simp [evSs, evS, v_var, v_int, v_bl, v_non, v_str, v_glb, v_tup, v_lst, v_bop, v_neg, v_cmp, v_chn, v_isN, v_notN, v_land, v_lor, v_lnot, v_ite, v_call, v_bi, v_mth, v_idx, v_slc, v_rev, v_isi, v_lrg1, v_lrg2, evEs, evIfs, evIt, evPar, bind_ok, asB, dOf, dsOf, pureD, ofD, ofB, isNon, exitF, exitV, startE, List.length_cons, List.length_nil, List.map_cons, List.map_nil, List.cons_append, List.nil_append, List.append_nil, List.replicate, List.getElem?_cons_zero, List.getElem?_cons_succ, List.take_length, Option.map_some, Option.map_none, if_true, if_false, Bool.false_eq_true, Bool.not_true, Bool.not_false, List.any_cons, List.any_nil, Bool.or_false, isTy, List.set_cons_zero, List.set_cons_succ, setTg, wipeE, tgSlots, seqItems, biD, bopD, List.zip_cons_cons, List.zip_nil_left, List.zip_nil_right, List.foldl_cons, List.foldl_nil, if_neg, Nat.reduceAdd, Nat.reduceSub, reduceIte, sq, isNon, he, stepB, dOf_d, nee, spD, rr, hr]
          | some z =>
            obtain ⟨za, zf, zs⟩ := z
            rw [hr] at rr
            have z4 : (4 : Nat) ≤ sizeLine := szl (by omega)
            have add : bopD .add (.tuple [.int za, .int zf, .int zs]) (.tuple [.int I]) = some (E4.d ⟨za, zf, zs, I⟩) := by
              simp only [bopD, List.length_cons, List.length_nil, Nat.zero_add, Nat.reduceAdd, if_pos z4, E4.d, List.cons_append, List.nil_append]
            refine ⟨_, m', ?_, rfl, some (.d (.int I)), some (.d (spD r)), some (.d (.tuple [.int za, .int zf, .int zs])), rfl⟩
            have hb := hj
            cases bb with
            | none => simp [evSs, evS, v_var, v_int, v_bl, v_non, v_str, v_glb, v_tup, v_lst, v_bop, v_neg, v_cmp, v_chn, v_isN, v_notN, v_land, v_lor, v_lnot, v_ite, v_call, v_bi, v_mth, v_idx, v_slc, v_rev, v_isi, v_lrg1, v_lrg2, evEs, evIfs, evIt, evPar, bind_ok, asB, dOf, dsOf, pureD, ofD, ofB, isNon, exitF, exitV, startE, List.length_cons, List.length_nil, List.map_cons, List.map_nil, List.cons_append, List.nil_append, List.append_nil, List.replicate, List.getElem?_cons_zero, List.getElem?_cons_succ, List.take_length, Option.map_some, Option.map_none, if_true, if_false, Bool.false_eq_true, Bool.not_true, Bool.not_false, List.any_cons, List.any_nil, Bool.or_false, isTy, List.set_cons_zero, List.set_cons_succ, setTg, wipeE, tgSlots, seqItems, biD, bopD, List.zip_cons_cons, List.zip_nil_left, List.zip_nil_right, List.foldl_cons, List.foldl_nil, if_neg, Nat.reduceAdd, Nat.reduceSub, reduceIte, sq, isNon, he, stepB, dOf_d, nee, spD, rr, hr, bestD, hj, E4.d, z4]
            | some cc =>
              have lt := lt_E4 ⟨za, zf, zs, I⟩ cc
              have nn : isNon (.d cc.d) = false := rfl
              simp only [hj, stepB, bestD]
              by_cases hlt : HT.lexLt (E4.l ⟨za, zf, zs, I⟩) cc.l = true
              · rw [hlt] at lt
                simp only [evSs, evS, v_call, evEs, v_var, List.getElem?_cons_zero, List.getElem?_cons_succ, bind_ok, sq, List.set_cons_zero, List.set_cons_succ, v_land, v_notN, isN_t, Bool.not_false, asB, if_true, v_cmp, dOf_d, nee, ofB, rr, v_lor, v_isN, nn, Bool.false_eq_true, if_false, v_bop, v_tup, pureD, Option.map_some, ofD, add, lt, hr, he, hlt, spD]
              · have hlt' : HT.lexLt (E4.l ⟨za, zf, zs, I⟩) cc.l = false := by simpa using hlt
                rw [hlt'] at lt
                simp only [evSs, evS, v_call, evEs, v_var, List.getElem?_cons_zero, List.getElem?_cons_succ, bind_ok, sq, List.set_cons_zero, List.set_cons_succ, v_land, v_notN, isN_t, Bool.not_false, asB, if_true, v_cmp, dOf_d, nee, ofB, rr, v_lor, v_isN, nn, Bool.false_eq_true, if_false, v_bop, v_tup, pureD, Option.map_some, ofD, add, lt, hr, he, hlt', spD]
end
end k19
end Kp
end

section
set_option Elab.async false
set_option linter.all false
set_option maxRecDepth 100000
set_option maxHeartbeats 4000077
namespace Kp
namespace k19
open PySem
section
variable {ps : List Pn} {n : Nat} {m : Store} {k : Nat} {P : Pn}
theorem c_is_way (hn : 1 ≤ n) (w : Way) : Cn n 4 [.d (.str w.s)] m = .ok (.d (.bool true)) m := by
  obtain ⟨n, rfl⟩ := up1 hn
  rw [call_def (fn := f_is_way) rfl rfl]
  have h := w_way w
  generalize w.s = s at *
  simp [f_is_way, b_is_way, evSs, evS, v_var, v_int, v_bl, v_non, v_str, v_glb, v_tup, v_lst, v_bop, v_neg, v_cmp, v_chn, v_isN, v_notN, v_land, v_lor, v_lnot, v_ite, v_call, v_bi, v_mth, v_idx, v_slc, v_rev, v_isi, v_lrg1, v_lrg2, evEs, evIfs, evIt, evPar, bind_ok, asB, dOf, dsOf, pureD, ofD, ofB, isNon, exitF, exitV, startE, List.length_cons, List.length_nil, List.map_cons, List.map_nil, List.cons_append, List.nil_append, List.append_nil, List.replicate, List.getElem?_cons_zero, List.getElem?_cons_succ, List.take_length, Option.map_some, Option.map_none, if_true, if_false, Bool.false_eq_true, Bool.not_true, Bool.not_false, List.any_cons, List.any_nil, Bool.or_false, isTy, List.set_cons_zero, List.set_cons_succ, setTg, wipeE, tgSlots, seqItems, biD, bopD, List.zip_cons_cons, List.zip_nil_left, List.zip_nil_right, List.foldl_cons, List.foldl_nil, if_neg, Nat.reduceAdd, Nat.reduceSub, reduceIte, g_WAYS, h, dOf_d]
theorem c_aim (hn : 8 ≤ n) (F : Flat ps) (w : Way) (hk : (g0 :: ps)[k + 1]? = some P) : Cn n 37 [.d (pl ps), .d (.int ((k + 1 : Nat) : Int)), .d (.str w.s)] m = .ok (.d (ansD (best w (k + 1) (seenT P) ps))) m := by
  obtain ⟨n, rfl⟩ := up1 (by omega : 1 ≤ n)
  rw [call_def (fn := f_aim) rfl rfl]
  have hlt : k + 1 ≤ ps.length := by
    have := (List.getElem?_eq_some_iff.mp hk).1
    simp at this
    omega
  have h1 := c_see_plan (m := m) (by omega : 7 ≤ n) F
  have h2 := c_see_name (m := m) (by omega : 4 ≤ n) F hlt
  have h3 := c_see_hold (m := m) (by omega : 7 ≤ n) F hk
  have h4 := c_is_way (m := m) (by omega : 1 ≤ n) w
  have h5 := c_aimed (m := m) (by omega : 7 ≤ n) F w hk
  have h6 := w_arr w
  generalize ansD (best w (k + 1) (seenT P) ps) = A at *
  generalize ((k + 1 : Nat) : Int) = K at *
  generalize w.s = s at *
  simp [f_aim, b_aim, evSs, evS, v_var, v_int, v_bl, v_non, v_str, v_glb, v_tup, v_lst, v_bop, v_neg, v_cmp, v_chn, v_isN, v_notN, v_land, v_lor, v_lnot, v_ite, v_call, v_bi, v_mth, v_idx, v_slc, v_rev, v_isi, v_lrg1, v_lrg2, evEs, evIfs, evIt, evPar, bind_ok, asB, dOf, dsOf, pureD, ofD, ofB, isNon, exitF, exitV, startE, List.length_cons, List.length_nil, List.map_cons, List.map_nil, List.cons_append, List.nil_append, List.append_nil, List.replicate, List.getElem?_cons_zero, List.getElem?_cons_succ, List.take_length, Option.map_some, Option.map_none, if_true, if_false, Bool.false_eq_true, Bool.not_true, Bool.not_false, List.any_cons, List.any_nil, Bool.or_false, isTy, List.set_cons_zero, List.set_cons_succ, setTg, wipeE, tgSlots, seqItems, biD, bopD, List.zip_cons_cons, List.zip_nil_left, List.zip_nil_right, List.foldl_cons, List.foldl_nil, if_neg, Nat.reduceAdd, Nat.reduceSub, reduceIte, g_ARROWS, h1, h2, h3, h4, h5, h6, dOf_d]
/-! the law's own -/
theorem c_by (hn : 1 ≤ n) (F : Flat ps) (hk : (g0 :: ps)[k]? = some P) : Cn n 44 [.d (pl ps), .d (.int (k : Int))] m = .ok (.d P.d) m := by
  obtain ⟨n, rfl⟩ := up1 hn
  rw [call_def (fn := f__law_by) rfl rfl]
  have hl := pl_len F
  have q0 : evE (Cn n) (Gc csts) q__law_by_0 [some (.d (pl ps)), some (.d (.int (k : Int))), none] m = .ok (.d (.list [P.d])) m := by
    have := comp_if (Φ := Cn n) (G := Gc csts) (env := [some (.d (pl ps)), some (.d (.int (k : Int))), none]) (m := m) (elt := .var 2) (c := .cmp .eq (.idx (.var 2) (.int 0)) (.var 1)) (tg := .one 2) (it := .seq (.var 0)) (items := (g0 :: ps).map Pn.d) (nmB (k : Int)) id (by simp [evSs, evS, v_var, v_int, v_bl, v_non, v_str, v_glb, v_tup, v_lst, v_bop, v_neg, v_cmp, v_chn, v_isN, v_notN, v_land, v_lor, v_lnot, v_ite, v_call, v_bi, v_mth, v_idx, v_slc, v_rev, v_isi, v_lrg1, v_lrg2, evEs, evIfs, evIt, evPar, bind_ok, asB, dOf, dsOf, pureD, ofD, ofB, isNon, exitF, exitV, startE, List.length_cons, List.length_nil, List.map_cons, List.map_nil, List.cons_append, List.nil_append, List.append_nil, List.replicate, List.getElem?_cons_zero, List.getElem?_cons_succ, List.take_length, Option.map_some, Option.map_none, if_true, if_false, Bool.false_eq_true, Bool.not_true, Bool.not_false, List.any_cons, List.any_nil, Bool.or_false, isTy, List.set_cons_zero, List.set_cons_succ, setTg, wipeE, tgSlots, seqItems, biD, bopD, cmpD, List.zip_cons_cons, List.zip_nil_left, List.zip_nil_right, List.foldl_cons, List.foldl_nil, if_neg, Nat.reduceAdd, Nat.reduceSub, reduceIte, pl]) (szl (by omega)) fun x hx acc => by
      obtain ⟨p, hp, rfl⟩ := PL_mem hx
      exact ⟨_, rfl, by simp [evSs, evS, v_var, v_int, v_bl, v_non, v_str, v_glb, v_tup, v_lst, v_bop, v_neg, v_cmp, v_chn, v_isN, v_notN, v_land, v_lor, v_lnot, v_ite, v_call, v_bi, v_mth, v_idx, v_slc, v_rev, v_isi, v_lrg1, v_lrg2, evEs, evIfs, evIt, evPar, bind_ok, asB, dOf, dsOf, pureD, ofD, ofB, isNon, exitF, exitV, startE, List.length_cons, List.length_nil, List.map_cons, List.map_nil, List.cons_append, List.nil_append, List.append_nil, List.replicate, List.getElem?_cons_zero, List.getElem?_cons_succ, List.take_length, Option.map_some, Option.map_none, if_true, if_false, Bool.false_eq_true, Bool.not_true, Bool.not_false, List.any_cons, List.any_nil, Bool.or_false, isTy, List.set_cons_zero, List.set_cons_succ, setTg, wipeE, tgSlots, seqItems, biD, bopD, List.zip_cons_cons, List.zip_nil_left, List.zip_nil_right, List.foldl_cons, List.foldl_nil, if_neg, Nat.reduceAdd, Nat.reduceSub, reduceIte, dOf_d, (pd_ix p).1, cmp_eqI, nmB_d], fun _ => by simp [evSs, evS, v_var, v_int, v_bl, v_non, v_str, v_glb, v_tup, v_lst, v_bop, v_neg, v_cmp, v_chn, v_isN, v_notN, v_land, v_lor, v_lnot, v_ite, v_call, v_bi, v_mth, v_idx, v_slc, v_rev, v_isi, v_lrg1, v_lrg2, evEs, evIfs, evIt, evPar, bind_ok, asB, dOf, dsOf, pureD, ofD, ofB, isNon, exitF, exitV, startE, List.length_cons, List.length_nil, List.map_cons, List.map_nil, List.cons_append, List.nil_append, List.append_nil, List.replicate, List.getElem?_cons_zero, List.getElem?_cons_succ, List.take_length, Option.map_some, Option.map_none, if_true, if_false, Bool.false_eq_true, Bool.not_true, Bool.not_false, List.any_cons, List.any_nil, Bool.or_false, isTy, List.set_cons_zero, List.set_cons_succ, setTg, wipeE, tgSlots, seqItems, biD, bopD, cmpD, List.zip_cons_cons, List.zip_nil_left, List.zip_nil_right, List.foldl_cons, List.foldl_nil, if_neg, Nat.reduceAdd, Nat.reduceSub, reduceIte]⟩
    rw [at_k F hk] at this
    simpa [q__law_by_0] using this
  have a0 : idxD (.list [P.d]) (.int 0) = some P.d := by simp [idxD, L2.atI, L2.ixN]
  simp [f__law_by, b__law_by, evSs, evS, v_var, v_int, v_bl, v_non, v_str, v_glb, v_tup, v_lst, v_bop, v_neg, v_cmp, v_chn, v_isN, v_notN, v_land, v_lor, v_lnot, v_ite, v_call, v_bi, v_mth, v_idx, v_slc, v_rev, v_isi, v_lrg1, v_lrg2, evEs, evIfs, evIt, evPar, bind_ok, asB, dOf, dsOf, pureD, ofD, ofB, isNon, exitF, exitV, startE, List.length_cons, List.length_nil, List.map_cons, List.map_nil, List.cons_append, List.nil_append, List.append_nil, List.replicate, List.getElem?_cons_zero, List.getElem?_cons_succ, List.take_length, Option.map_some, Option.map_none, if_true, if_false, Bool.false_eq_true, Bool.not_true, Bool.not_false, List.any_cons, List.any_nil, Bool.or_false, isTy, List.set_cons_zero, List.set_cons_succ, setTg, wipeE, tgSlots, seqItems, biD, bopD, List.zip_cons_cons, List.zip_nil_left, List.zip_nil_right, List.foldl_cons, List.foldl_nil, if_neg, Nat.reduceAdd, Nat.reduceSub, reduceIte, q0, dOf_d, a0]
theorem c_ups (hn : 2 ≤ n) (F : Flat ps) (hk : (g0 :: ps)[k]? = some P) : Cn n 45 [.d (pl ps), .d (.int (k : Int))] m = .ok (.d (.list (upsOf k))) m := by
  obtain ⟨n, rfl⟩ := up1 (by omega : 1 ≤ n)
  rw [call_def (fn := f__law_ups) rfl rfl]
  have S1 : ∀ K : Int, evS (Cn n) (Gc csts) (.setM 2 (.lst [.var 1])) [some (.d (pl ps)), some (.d (.int K)), none] m = .ok (.next [some (.d (pl ps)), some (.d (.int K)), some (.loc m.length)]) (m ++ [.lst [.int K]]) := fun K => by
    simp [evS, v_lst, evEs, v_var, pureD, ofD, thaw_l]
  have lst1 : ∀ (l : List D) (i : Int), idxD (.list (l ++ [.int i])) (.int (-1)) = some (.int i) := fun l i => by
    simp [idxD, L2.atI, L2.ixN]
    have e : (if (1 : Int) ≤ (l.length : Int) + 1 then some (-1 + ((l.length : Int) + 1)).toNat else none) = some l.length := by
      rw [if_pos (by omega)]; congr 1; omega
    rw [e]
    simp
  have cnd : ∀ (K i : Int) (l : List D), (evE (Cn n) (Gc csts) (.cmp .ne (.idx (.var 2) (.neg (.int 1))) (.int 0)) [some (.d (pl ps)), some (.d (.int K)), some (.loc m.length)] (m ++ [.lst (l ++ [.int i])])).bind asB = .ok (!(i == 0)) (m ++ [.lst (l ++ [.int i])]) := fun K i l => by
    have d1 : dOf (.loc m.length) (m ++ [.lst (l ++ [.int i])]) = some (.list (l ++ [.int i])) := by simp only [dOf, get_end]
    simp only [v_cmp, v_idx, v_var, List.getElem?_cons_zero, List.getElem?_cons_succ, bind_ok, v_neg, v_int, d1, dOf_d, lst1, ofD, cmp_neI, ofB, asB]
  by_cases h : k = 0
  · subst h
    have w3 : ∃ q, whileN = q + 1 := ⟨99999, rfl⟩
    obtain ⟨q, w3⟩ := w3
    have W : evS (Cn n) (Gc csts) w__law_ups_0 [some (.d (pl ps)), some (.d (.int ((0 : Nat) : Int))), some (.loc m.length)] (m ++ [.lst [.int ((0 : Nat) : Int)]]) = .ok (.next [some (.d (pl ps)), some (.d (.int ((0 : Nat) : Int))), some (.loc m.length)]) (m ++ [.lst [.int ((0 : Nat) : Int)]]) := by
      simp only [w__law_ups_0, s_whl, w3, whileF]
      have := cnd ((0 : Nat) : Int) ((0 : Nat) : Int) []
      simp only [List.nil_append] at this
      rw [this]
      rfl
    simp only [f__law_ups, b__law_ups, startE, List.map_cons, List.map_nil, List.length_cons, List.length_nil, List.replicate, List.cons_append, List.nil_append, Nat.reduceAdd, Nat.reduceSub, evSs, S1, W, bind_ok]
    simp [evS, v_var, exitF, exitV, upsOf]
  · have hup : P.up = some 0 := by
      cases k with
      | zero => exact absurd rfl h
      | succ j => exact (F.ok P (List.mem_of_getElem? (i := j) (by simpa using hk))).2.1
    have by1 : ∀ m, Cn n 44 [.d (pl ps), .d (.int (k : Int))] m = .ok (.d P.d) m := fun m => c_by (by omega : 1 ≤ n) F hk
    have i1 : idxD P.d (.int 1) = some (.int 0) := by
      have := (pd_ix P).2.1
      rw [hup] at this
      exact this
    have hk0 : ((k : Int) == 0) = false := by
      have : ¬ (k : Int) = 0 := by omega
      simpa using this
    have hu : upsOf k = [.int (k : Int), .int 0] := by simp [upsOf, h]
    rw [hu]
    generalize (k : Int) = K at *
    have w3 : ∃ q, whileN = q + 1 + 1 := ⟨99998, rfl⟩
    obtain ⟨q, w3⟩ := w3
    have one : (1 : Nat) < sizeLine := by rw [sizeLine_eq]; omega
    have T1 : evSs (Cn n) (Gc csts) [.exp (.mth .append (.var 2) [.idx (.call 44 [.var 0, .idx (.var 2) (.neg (.int 1))]) (.int 1)])] [some (.d (pl ps)), some (.d (.int K)), some (.loc m.length)] (m ++ [.lst [.int K]]) = .ok (.next [some (.d (pl ps)), some (.d (.int K)), some (.loc m.length)]) (m ++ [.lst [.int K, .int 0]]) := by
      have d1 : dOf (.loc m.length) (m ++ [.lst [.int K]]) = some (.list [.int K]) := by simp only [dOf, get_end]
      have r1 : recvOk .append (.loc m.length) (m ++ [.lst [.int K]]) = true := by simp only [recvOk, d1]
      have l1 := lst1 [] K
      simp only [List.nil_append] at l1
      simp only [evSs, evS, v_mth, v_var, List.getElem?_cons_zero, List.getElem?_cons_succ, bind_ok, r1, if_true, evEs, v_idx, v_call, v_neg, v_int, d1, dOf_d, l1, ofD, by1, i1, pureD, Option.map_some, mthV, get_end, List.length_cons, List.length_nil, Nat.zero_add, one, set_end, List.cons_append, List.nil_append]
    have W : evS (Cn n) (Gc csts) w__law_ups_0 [some (.d (pl ps)), some (.d (.int K)), some (.loc m.length)] (m ++ [.lst [.int K]]) = .ok (.next [some (.d (pl ps)), some (.d (.int K)), some (.loc m.length)]) (m ++ [.lst [.int K, .int 0]]) := by
      simp only [w__law_ups_0, s_whl, w3, whileF]
      have c1 := cnd K K []
      have c2 := cnd K 0 [.int K]
      simp only [List.nil_append, List.cons_append] at c1 c2
      rw [c1]
      simp only [hk0, Bool.not_false, bind_ok, if_true, T1, c2]
      rfl
    simp only [f__law_ups, b__law_ups, startE, List.map_cons, List.map_nil, List.length_cons, List.length_nil, List.replicate, List.cons_append, List.nil_append, Nat.reduceAdd, Nat.reduceSub, evSs, S1, W, bind_ok]
    simp [evS, v_var, exitF, exitV]
theorem c_parts0 (hn : 1 ≤ n) (F : Flat ps) : Cn n 46 [.d (pl ps), .d (.int 0)] m = .ok (.d (.list (nms ps))) m := by
  obtain ⟨n, rfl⟩ := up1 hn
  rw [call_def (fn := f__law_parts) rfl rfl]
  have hl := pl_len F
  have l1 := F.len
  have q0 : evE (Cn n) (Gc csts) q__law_parts_0 [some (.d (pl ps)), some (.d (.int 0)), none, none, none, none] m = .ok (.d (.list (prs ps))) m := by
    have := comp_if (Φ := Cn n) (G := Gc csts) (env := [some (.d (pl ps)), some (.d (.int 0)), none, none, none, none]) (m := m) (elt := .tup [.idx (.var 3) (.int 3), .idx (.var 3) (.int 0)]) (c := .cmp .eq (.idx (.var 3) (.int 1)) (.var 1)) (tg := .one 3) (it := .seq (.var 0)) (items := (g0 :: ps).map Pn.d) (fun d => match idxD d (.int 1) with | some (.int i) => i == 0 | _ => false) (fun d => match idxD d (.int 0) with | some z => .tuple [.int 0, z] | none => .none) (by simp [evSs, evS, v_var, v_int, v_bl, v_non, v_str, v_glb, v_tup, v_lst, v_bop, v_neg, v_cmp, v_chn, v_isN, v_notN, v_land, v_lor, v_lnot, v_ite, v_call, v_bi, v_mth, v_idx, v_slc, v_rev, v_isi, v_lrg1, v_lrg2, evEs, evIfs, evIt, evPar, bind_ok, asB, dOf, dsOf, pureD, ofD, ofB, isNon, exitF, exitV, startE, List.length_cons, List.length_nil, List.map_cons, List.map_nil, List.cons_append, List.nil_append, List.append_nil, List.replicate, List.getElem?_cons_zero, List.getElem?_cons_succ, List.take_length, Option.map_some, Option.map_none, if_true, if_false, Bool.false_eq_true, Bool.not_true, Bool.not_false, List.any_cons, List.any_nil, Bool.or_false, isTy, List.set_cons_zero, List.set_cons_succ, setTg, wipeE, tgSlots, seqItems, biD, bopD, cmpD, List.zip_cons_cons, List.zip_nil_left, List.zip_nil_right, List.foldl_cons, List.foldl_nil, if_neg, Nat.reduceAdd, Nat.reduceSub, reduceIte, pl]) (szl (by omega)) fun x hx acc => by
      obtain ⟨p, hp, rfl⟩ := PL_mem hx
      obtain ⟨i0, i1, i2, i3, i4⟩ := pd_ix p
      rcases (in_L F hp).2 with hu | hu
      · rw [hu] at i1
        have i1 : idxD p.d (.int 1) = some .none := i1
        exact ⟨_, rfl, by simp [evSs, evS, v_var, v_int, v_bl, v_non, v_str, v_glb, v_tup, v_lst, v_bop, v_neg, v_cmp, v_chn, v_isN, v_notN, v_land, v_lor, v_lnot, v_ite, v_call, v_bi, v_mth, v_idx, v_slc, v_rev, v_isi, v_lrg1, v_lrg2, evEs, evIfs, evIt, evPar, bind_ok, asB, dOf, dsOf, pureD, ofD, ofB, isNon, exitF, exitV, startE, List.length_cons, List.length_nil, List.map_cons, List.map_nil, List.cons_append, List.nil_append, List.append_nil, List.replicate, List.getElem?_cons_zero, List.getElem?_cons_succ, List.take_length, Option.map_some, Option.map_none, if_true, if_false, Bool.false_eq_true, Bool.not_true, Bool.not_false, List.any_cons, List.any_nil, Bool.or_false, isTy, List.set_cons_zero, List.set_cons_succ, setTg, wipeE, tgSlots, seqItems, biD, bopD, List.zip_cons_cons, List.zip_nil_left, List.zip_nil_right, List.foldl_cons, List.foldl_nil, if_neg, Nat.reduceAdd, Nat.reduceSub, reduceIte, dOf_d, i1, eq_nonI], fun h => by rw [i1] at h; cases h⟩
      · rw [hu] at i1
        have i1 : idxD p.d (.int 1) = some (.int 0) := i1
        exact ⟨_, rfl, by simp [evSs, evS, v_var, v_int, v_bl, v_non, v_str, v_glb, v_tup, v_lst, v_bop, v_neg, v_cmp, v_chn, v_isN, v_notN, v_land, v_lor, v_lnot, v_ite, v_call, v_bi, v_mth, v_idx, v_slc, v_rev, v_isi, v_lrg1, v_lrg2, evEs, evIfs, evIt, evPar, bind_ok, asB, dOf, dsOf, pureD, ofD, ofB, isNon, exitF, exitV, startE, List.length_cons, List.length_nil, List.map_cons, List.map_nil, List.cons_append, List.nil_append, List.append_nil, List.replicate, List.getElem?_cons_zero, List.getElem?_cons_succ, List.take_length, Option.map_some, Option.map_none, if_true, if_false, Bool.false_eq_true, Bool.not_true, Bool.not_false, List.any_cons, List.any_nil, Bool.or_false, isTy, List.set_cons_zero, List.set_cons_succ, setTg, wipeE, tgSlots, seqItems, biD, bopD, List.zip_cons_cons, List.zip_nil_left, List.zip_nil_right, List.foldl_cons, List.foldl_nil, if_neg, Nat.reduceAdd, Nat.reduceSub, reduceIte, dOf_d, i1, cmp_eqI], fun h => by simp [evSs, evS, v_var, v_int, v_bl, v_non, v_str, v_glb, v_tup, v_lst, v_bop, v_neg, v_cmp, v_chn, v_isN, v_notN, v_land, v_lor, v_lnot, v_ite, v_call, v_bi, v_mth, v_idx, v_slc, v_rev, v_isi, v_lrg1, v_lrg2, evEs, evIfs, evIt, evPar, bind_ok, asB, dOf, dsOf, pureD, ofD, ofB, isNon, exitF, exitV, startE, List.length_cons, List.length_nil, List.map_cons, List.map_nil, List.cons_append, List.nil_append, List.append_nil, List.replicate, List.getElem?_cons_zero, List.getElem?_cons_succ, List.take_length, Option.map_some, Option.map_none, if_true, if_false, Bool.false_eq_true, Bool.not_true, Bool.not_false, List.any_cons, List.any_nil, Bool.or_false, isTy, List.set_cons_zero, List.set_cons_succ, setTg, wipeE, tgSlots, seqItems, biD, bopD, List.zip_cons_cons, List.zip_nil_left, List.zip_nil_right, List.foldl_cons, List.foldl_nil, if_neg, Nat.reduceAdd, Nat.reduceSub, reduceIte, dOf_d, i0, i3]⟩
    have e : (((g0 :: ps).map Pn.d).filter fun d => match idxD d (.int 1) with | some (.int i) => i == 0 | _ => false) = ps.map Pn.d := by
      rw [List.map_cons, List.filter_cons]
      have : idxD g0.d (.int 1) = some .none := (pd_ix g0).2.1
      simp only [this, Bool.false_eq_true, if_false]
      rw [List.filter_eq_self]
      intro x hx
      obtain ⟨p, hp, rfl⟩ := List.mem_map.mp hx
      have i1 := (pd_ix p).2.1
      rw [(F.ok p hp).2.1] at i1
      have i1 : idxD p.d (.int 1) = some (.int 0) := i1
      simp [i1]
    rw [e, List.map_map] at this
    have e2 : ((fun d => match idxD d (PyData.int 0) with | some z => PyData.tuple [.int 0, z] | none => PyData.none) ∘ Pn.d) = (fun p : Pn => PyData.tuple [.int 0, .int (p.nm : Int)]) := by
      funext p
      simp only [Function.comp_apply, (pd_ix p).1]
    rw [e2] at this
    exact this
  have so := sort_prs F
  have q1 : evE (Cn n) (Gc csts) q__law_parts_1 [some (.d (pl ps)), some (.d (.int 0)), some (.d (.list (prs ps))), none, none, none] m = .ok (.d (.list (nms ps))) m := by
    have := comp_map (Φ := Cn n) (G := Gc csts) (env := [some (.d (pl ps)), some (.d (.int 0)), some (.d (.list (prs ps))), none, none, none]) (m := m) (elt := .var 5) (tg := .many [4, 5]) (it := .seq (.bi .sorted [.var 2])) (items := prs ps) (fun d => match idxD d (.int 1) with | some z => z | none => .none) (by simp [evSs, evS, v_var, v_int, v_bl, v_non, v_str, v_glb, v_tup, v_lst, v_bop, v_neg, v_cmp, v_chn, v_isN, v_notN, v_land, v_lor, v_lnot, v_ite, v_call, v_bi, v_mth, v_idx, v_slc, v_rev, v_isi, v_lrg1, v_lrg2, evEs, evIfs, evIt, evPar, bind_ok, asB, dOf, dsOf, pureD, ofD, ofB, isNon, exitF, exitV, startE, List.length_cons, List.length_nil, List.map_cons, List.map_nil, List.cons_append, List.nil_append, List.append_nil, List.replicate, List.getElem?_cons_zero, List.getElem?_cons_succ, List.take_length, Option.map_some, Option.map_none, if_true, if_false, Bool.false_eq_true, Bool.not_true, Bool.not_false, List.any_cons, List.any_nil, Bool.or_false, isTy, List.set_cons_zero, List.set_cons_succ, setTg, wipeE, tgSlots, seqItems, biD, bopD, cmpD, List.zip_cons_cons, List.zip_nil_left, List.zip_nil_right, List.foldl_cons, List.foldl_nil, if_neg, Nat.reduceAdd, Nat.reduceSub, reduceIte, so]) (szl (by simp [prs]; omega)) fun x hx acc => by
      obtain ⟨p, hp, rfl⟩ := List.mem_map.mp hx
      exact ⟨_, rfl, by simp [evSs, evS, v_var, v_int, v_bl, v_non, v_str, v_glb, v_tup, v_lst, v_bop, v_neg, v_cmp, v_chn, v_isN, v_notN, v_land, v_lor, v_lnot, v_ite, v_call, v_bi, v_mth, v_idx, v_slc, v_rev, v_isi, v_lrg1, v_lrg2, evEs, evIfs, evIt, evPar, bind_ok, asB, dOf, dsOf, pureD, ofD, ofB, isNon, exitF, exitV, startE, List.length_cons, List.length_nil, List.map_cons, List.map_nil, List.cons_append, List.nil_append, List.append_nil, List.replicate, List.getElem?_cons_zero, List.getElem?_cons_succ, List.take_length, Option.map_some, Option.map_none, if_true, if_false, Bool.false_eq_true, Bool.not_true, Bool.not_false, List.any_cons, List.any_nil, Bool.or_false, isTy, List.set_cons_zero, List.set_cons_succ, setTg, wipeE, tgSlots, seqItems, biD, bopD, cmpD, List.zip_cons_cons, List.zip_nil_left, List.zip_nil_right, List.foldl_cons, List.foldl_nil, if_neg, Nat.reduceAdd, Nat.reduceSub, reduceIte, (pair_ix _ _).2]⟩
    unfold prs at this
    rw [List.map_map] at this
    have e2 : ((fun d => match idxD d (PyData.int 1) with | some z => z | none => PyData.none) ∘ fun p : Pn => PyData.tuple [.int 0, .int (p.nm : Int)]) = (fun p : Pn => PyData.int (p.nm : Int)) := by
      funext p
      simp only [Function.comp_apply, (pair_ix _ _).2]
    rw [e2] at this
    exact this
  simp [f__law_parts, b__law_parts, evSs, evS, v_var, v_int, v_bl, v_non, v_str, v_glb, v_tup, v_lst, v_bop, v_neg, v_cmp, v_chn, v_isN, v_notN, v_land, v_lor, v_lnot, v_ite, v_call, v_bi, v_mth, v_idx, v_slc, v_rev, v_isi, v_lrg1, v_lrg2, evEs, evIfs, evIt, evPar, bind_ok, asB, dOf, dsOf, pureD, ofD, ofB, isNon, exitF, exitV, startE, List.length_cons, List.length_nil, List.map_cons, List.map_nil, List.cons_append, List.nil_append, List.append_nil, List.replicate, List.getElem?_cons_zero, List.getElem?_cons_succ, List.take_length, Option.map_some, Option.map_none, if_true, if_false, Bool.false_eq_true, Bool.not_true, Bool.not_false, List.any_cons, List.any_nil, Bool.or_false, isTy, List.set_cons_zero, List.set_cons_succ, setTg, wipeE, tgSlots, seqItems, biD, bopD, cmpD, List.zip_cons_cons, List.zip_nil_left, List.zip_nil_right, List.foldl_cons, List.foldl_nil, if_neg, Nat.reduceAdd, Nat.reduceSub, reduceIte, q0, q1]
theorem c_partsK (hn : 1 ≤ n) (F : Flat ps) : Cn n 46 [.d (pl ps), .d (.int ((k + 1 : Nat) : Int))] m = .ok (.d (.list [])) m := by
  obtain ⟨n, rfl⟩ := up1 hn
  rw [call_def (fn := f__law_parts) rfl rfl]
  have hl := pl_len F
  have hk : ((0 : Int) == ((k + 1 : Nat) : Int)) = false := by
    have : ¬ (0 : Int) = ((k + 1 : Nat) : Int) := by omega
    simpa using this
  generalize ((k + 1 : Nat) : Int) = K at *
  have q0 : evE (Cn n) (Gc csts) q__law_parts_0 [some (.d (pl ps)), some (.d (.int K)), none, none, none, none] m = .ok (.d (.list [])) m := by
    have := comp_if (Φ := Cn n) (G := Gc csts) (env := [some (.d (pl ps)), some (.d (.int K)), none, none, none, none]) (m := m) (elt := .tup [.idx (.var 3) (.int 3), .idx (.var 3) (.int 0)]) (c := .cmp .eq (.idx (.var 3) (.int 1)) (.var 1)) (tg := .one 3) (it := .seq (.var 0)) (items := (g0 :: ps).map Pn.d) (fun _ => false) id (by simp [evSs, evS, v_var, v_int, v_bl, v_non, v_str, v_glb, v_tup, v_lst, v_bop, v_neg, v_cmp, v_chn, v_isN, v_notN, v_land, v_lor, v_lnot, v_ite, v_call, v_bi, v_mth, v_idx, v_slc, v_rev, v_isi, v_lrg1, v_lrg2, evEs, evIfs, evIt, evPar, bind_ok, asB, dOf, dsOf, pureD, ofD, ofB, isNon, exitF, exitV, startE, List.length_cons, List.length_nil, List.map_cons, List.map_nil, List.cons_append, List.nil_append, List.append_nil, List.replicate, List.getElem?_cons_zero, List.getElem?_cons_succ, List.take_length, Option.map_some, Option.map_none, if_true, if_false, Bool.false_eq_true, Bool.not_true, Bool.not_false, List.any_cons, List.any_nil, Bool.or_false, isTy, List.set_cons_zero, List.set_cons_succ, setTg, wipeE, tgSlots, seqItems, biD, bopD, cmpD, List.zip_cons_cons, List.zip_nil_left, List.zip_nil_right, List.foldl_cons, List.foldl_nil, if_neg, Nat.reduceAdd, Nat.reduceSub, reduceIte, pl]) (szl (by omega)) fun x hx acc => by
      obtain ⟨p, hp, rfl⟩ := PL_mem hx
      obtain ⟨i0, i1, i2, i3, i4⟩ := pd_ix p
      rcases (in_L F hp).2 with hu | hu
      · rw [hu] at i1
        have i1 : idxD p.d (.int 1) = some .none := i1
        exact ⟨_, rfl, by simp [evSs, evS, v_var, v_int, v_bl, v_non, v_str, v_glb, v_tup, v_lst, v_bop, v_neg, v_cmp, v_chn, v_isN, v_notN, v_land, v_lor, v_lnot, v_ite, v_call, v_bi, v_mth, v_idx, v_slc, v_rev, v_isi, v_lrg1, v_lrg2, evEs, evIfs, evIt, evPar, bind_ok, asB, dOf, dsOf, pureD, ofD, ofB, isNon, exitF, exitV, startE, List.length_cons, List.length_nil, List.map_cons, List.map_nil, List.cons_append, List.nil_append, List.append_nil, List.replicate, List.getElem?_cons_zero, List.getElem?_cons_succ, List.take_length, Option.map_some, Option.map_none, if_true, if_false, Bool.false_eq_true, Bool.not_true, Bool.not_false, List.any_cons, List.any_nil, Bool.or_false, isTy, List.set_cons_zero, List.set_cons_succ, setTg, wipeE, tgSlots, seqItems, biD, bopD, List.zip_cons_cons, List.zip_nil_left, List.zip_nil_right, List.foldl_cons, List.foldl_nil, if_neg, Nat.reduceAdd, Nat.reduceSub, reduceIte, dOf_d, i1, eq_nonI], fun h => by cases h⟩
      · rw [hu] at i1
        have i1 : idxD p.d (.int 1) = some (.int 0) := i1
        exact ⟨_, rfl, by simp only [evSs, evS, v_var, v_int, v_bl, v_non, v_str, v_glb, v_tup, v_lst, v_bop, v_neg, v_cmp, v_chn, v_isN, v_notN, v_land, v_lor, v_lnot, v_ite, v_call, v_bi, v_mth, v_idx, v_slc, v_rev, v_isi, v_lrg1, v_lrg2, evEs, evIfs, evIt, evPar, bind_ok, asB, dOf, dsOf, pureD, ofD, ofB, isNon, exitF, exitV, startE, List.length_cons, List.length_nil, List.map_cons, List.map_nil, List.cons_append, List.nil_append, List.append_nil, List.replicate, List.getElem?_cons_zero, List.getElem?_cons_succ, List.take_length, Option.map_some, Option.map_none, if_true, if_false, Bool.false_eq_true, Bool.not_true, Bool.not_false, List.any_cons, List.any_nil, Bool.or_false, isTy, List.set_cons_zero, List.set_cons_succ, setTg, wipeE, tgSlots, seqItems, biD, bopD, List.zip_cons_cons, List.zip_nil_left, List.zip_nil_right, List.foldl_cons, List.foldl_nil, if_neg, Nat.reduceAdd, Nat.reduceSub, reduceIte, dOf_d, i1, cmp_eqI, hk], fun h => by cases h⟩
    rw [filt_no] at this
    exact this
  have so : sortD [] = some [] := by simp [sortD, intsOf]
  have q1 : evE (Cn n) (Gc csts) q__law_parts_1 [some (.d (pl ps)), some (.d (.int K)), some (.d (.list [])), none, none, none] m = .ok (.d (.list [])) m :=
    comp_map (items := []) (fun _ => .none) (by simp [evSs, evS, v_var, v_int, v_bl, v_non, v_str, v_glb, v_tup, v_lst, v_bop, v_neg, v_cmp, v_chn, v_isN, v_notN, v_land, v_lor, v_lnot, v_ite, v_call, v_bi, v_mth, v_idx, v_slc, v_rev, v_isi, v_lrg1, v_lrg2, evEs, evIfs, evIt, evPar, bind_ok, asB, dOf, dsOf, pureD, ofD, ofB, isNon, exitF, exitV, startE, List.length_cons, List.length_nil, List.map_cons, List.map_nil, List.cons_append, List.nil_append, List.append_nil, List.replicate, List.getElem?_cons_zero, List.getElem?_cons_succ, List.take_length, Option.map_some, Option.map_none, if_true, if_false, Bool.false_eq_true, Bool.not_true, Bool.not_false, List.any_cons, List.any_nil, Bool.or_false, isTy, List.set_cons_zero, List.set_cons_succ, setTg, wipeE, tgSlots, seqItems, biD, bopD, cmpD, List.zip_cons_cons, List.zip_nil_left, List.zip_nil_right, List.foldl_cons, List.foldl_nil, if_neg, Nat.reduceAdd, Nat.reduceSub, reduceIte, so]) (szl (by simp)) fun x hx acc => by simp at hx
  simp [f__law_parts, b__law_parts, evSs, evS, v_var, v_int, v_bl, v_non, v_str, v_glb, v_tup, v_lst, v_bop, v_neg, v_cmp, v_chn, v_isN, v_notN, v_land, v_lor, v_lnot, v_ite, v_call, v_bi, v_mth, v_idx, v_slc, v_rev, v_isi, v_lrg1, v_lrg2, evEs, evIfs, evIt, evPar, bind_ok, asB, dOf, dsOf, pureD, ofD, ofB, isNon, exitF, exitV, startE, List.length_cons, List.length_nil, List.map_cons, List.map_nil, List.cons_append, List.nil_append, List.append_nil, List.replicate, List.getElem?_cons_zero, List.getElem?_cons_succ, List.take_length, Option.map_some, Option.map_none, if_true, if_false, Bool.false_eq_true, Bool.not_true, Bool.not_false, List.any_cons, List.any_nil, Bool.or_false, isTy, List.set_cons_zero, List.set_cons_succ, setTg, wipeE, tgSlots, seqItems, biD, bopD, cmpD, List.zip_cons_cons, List.zip_nil_left, List.zip_nil_right, List.foldl_cons, List.foldl_nil, if_neg, Nat.reduceAdd, Nat.reduceSub, reduceIte, q0, q1]
end
end k19
end Kp
end

section
set_option Elab.async false
set_option linter.all false
set_option maxRecDepth 100000
set_option maxHeartbeats 4000077
namespace Kp
namespace k19
open PySem
section
variable {ps : List Pn} {n : Nat} {m : Store} {k : Nat} {P : Pn}
theorem c_walkK (hn : 2 ≤ n) (F : Flat ps) : Cn n 47 [.d (pl ps), .d (.int ((k + 1 : Nat) : Int))] m = .ok (.d (.list [.int ((k + 1 : Nat) : Int)])) m := by
  obtain ⟨n, rfl⟩ := up1 (by omega : 1 ≤ n)
  rw [call_def (fn := f__law_walk) rfl rfl]
  have h1 := c_partsK (m := m) (k := k) (by omega : 1 ≤ n) F
  generalize ((k + 1 : Nat) : Int) = K at *
  have lo : ∀ a b, evS (Cn n) (Gc csts) l__law_walk_0 [some (.d (pl ps)), some (.d (.int K)), a, b] m = .ok (.next [some (.d (pl ps)), some (.d (.int K)), a, b]) m := fun a b => by
    simp only [l__law_walk_0, s_for, evIt, v_call, evEs, v_var, List.getElem?_cons_zero, List.getElem?_cons_succ, bind_ok, h1, seqItems, forF]
  simp [f__law_walk, b__law_walk, startE, evSs, evS, v_lst, evEs, v_var, pureD, ofD, lo, exitF, exitV]
theorem c_walk0 (hn : 3 ≤ n) (F : Flat ps) : Cn n 47 [.d (pl ps), .d (.int 0)] m = .ok (.d (.list (.int 0 :: nms ps))) m := by
  obtain ⟨n, rfl⟩ := up1 (by omega : 1 ≤ n)
  rw [call_def (fn := f__law_walk) rfl rfl]
  have l1 := F.len
  have h1 := c_parts0 (m := m) (by omega : 1 ≤ n) F
  have loop := for_ok (b := bodyF (Cn n) (Gc csts) (.one 3) [.set 2 (.bop .add (.var 2) (.call 47 [.var 0, .var 3]))]) (fun i env m' => m' = m ∧ ∃ a, env = [some (.d (pl ps)), some (.d (.int 0)), some (.d (.list (.int 0 :: (nms ps).take i))), a])
    (nms ps) 0 [some (.d (pl ps)), some (.d (.int 0)), some (.d (.list [.int 0])), none] m ⟨rfl, none, rfl⟩ (fun i x env m' hx hI => ?_)
  · obtain ⟨env', m', e1, e2, a, rfl⟩ := loop
    subst e2
    rw [Nat.zero_add, List.take_length] at e1
    have lo : evS (Cn n) (Gc csts) l__law_walk_0 [some (.d (pl ps)), some (.d (.int 0)), some (.d (.list [.int 0])), none] m' = .ok (.next [some (.d (pl ps)), some (.d (.int 0)), some (.d (.list (.int 0 :: nms ps))), a]) m' := by
      simp only [l__law_walk_0, s_for, evIt, v_call, evEs, v_var, List.getElem?_cons_zero, List.getElem?_cons_succ, bind_ok, h1, seqItems]
      exact e1
    simp [f__law_walk, b__law_walk, startE, evSs, evS, v_lst, evEs, v_var, pureD, ofD, lo, exitF, exitV]
  · rw [Nat.zero_add] at hI ⊢
    obtain ⟨rfl, a, rfl⟩ := hI
    have hi : i < ps.length := by
      have := (List.getElem?_eq_some_iff.mp hx).1
      rwa [nms_len] at this
    have hg := nms_get F hi
    rw [hg] at hx
    have hx : x = .int ((i + 1 : Nat) : Int) := (Option.some.inj hx).symm
    subst hx
    have wk := c_walkK (m := m') (k := i) (by omega : 2 ≤ n) F
    have tk : (nms ps).take (i + 1) = (nms ps).take i ++ [.int ((i + 1 : Nat) : Int)] := by
      rw [List.take_add_one, hg]; rfl
    rw [tk]
    have zl : ((nms ps).take i).length + 1 + 1 ≤ sizeLine := szl (by rw [List.length_take, nms_len]; omega)
    have add : bopD .add (.list (.int 0 :: (nms ps).take i)) (.list [.int ((i + 1 : Nat) : Int)]) = some (.list (.int 0 :: ((nms ps).take i ++ [.int ((i + 1 : Nat) : Int)]))) := by
      simp only [bopD, List.length_cons, List.length_nil, Nat.zero_add, if_pos zl, List.cons_append]
    refine ⟨_, m', ?_, rfl, some (.d (.int ((i + 1 : Nat) : Int))), rfl⟩
    rw [body_ok rfl]
    generalize ((i + 1 : Nat) : Int) = I at *
    simp only [evSs, evS, v_bop, v_var, List.getElem?_cons_zero, List.getElem?_cons_succ, List.set_cons_zero, List.set_cons_succ, bind_ok, v_call, evEs, wk, dOf_d, add, ofD]
/-! places -/
theorem c_place (hn : 3 ≤ n) (F : Flat ps) (hk : (g0 :: ps)[k]? = some P) : Cn n 48 [.d (pl ps), .d (.int (k : Int))] m = .ok (.d P.box) m := by
  obtain ⟨n, rfl⟩ := up1 (by omega : 1 ≤ n)
  rw [call_def (fn := f__law_place) rfl rfl]
  have h1 := c_ups (m := m) (by omega : 2 ≤ n) F hk
  have b1 : ∀ m, Cn n 44 [.d (pl ps), .d (.int (k : Int))] m = .ok (.d P.d) m := fun m => c_by (by omega : 1 ≤ n) F hk
  have b0 : ∀ m, Cn n 44 [.d (pl ps), .d (.int 0)] m = .ok (.d g0.d) m := fun m => c_by (k := 0) (by omega : 1 ≤ n) F rfl
  have i2 : idxD P.d (.int 2) = some P.box := (pd_ix P).2.2.1
  have j2 : idxD g0.d (.int 2) = some g0.box := (pd_ix g0).2.2.1
  obtain ⟨x0, x1, x2, x3⟩ := bx_ix P
  have d0 : idxD g0.box (.int 0) = some (.int 0) := (bx_ix g0).1
  have d1 : idxD g0.box (.int 1) = some (.int 0) := (bx_ix g0).2.1
  have hbox : P.box = .tuple [.int P.x, .int P.y, .int P.w, .int P.h] := rfl
  by_cases h : k = 0
  · have hP : P = g0 := by subst h; simpa using hk.symm
    subst hP
    have hu : upsOf k = [.int 0] := by simp [upsOf, h]
    rw [hu] at h1
    have q0 : evE (Cn n) (Gc csts) q__law_place_0 [some (.d (pl ps)), some (.d (.int (k : Int))), some (.d g0.box), none, none, none] m = .ok (.d (.list [g0.box])) m :=
      comp_two (items := [.int 0]) (by simp [evSs, evS, v_var, v_int, v_bl, v_non, v_str, v_glb, v_tup, v_lst, v_bop, v_neg, v_cmp, v_chn, v_isN, v_notN, v_land, v_lor, v_lnot, v_ite, v_call, v_bi, v_mth, v_idx, v_slc, v_rev, v_isi, v_lrg1, v_lrg2, evEs, evIfs, evIt, evPar, bind_ok, asB, dOf, dsOf, pureD, ofD, ofB, isNon, exitF, exitV, startE, List.length_cons, List.length_nil, List.map_cons, List.map_nil, List.cons_append, List.nil_append, List.append_nil, List.replicate, List.getElem?_cons_zero, List.getElem?_cons_succ, List.take_length, Option.map_some, Option.map_none, if_true, if_false, Bool.false_eq_true, Bool.not_true, Bool.not_false, List.any_cons, List.any_nil, Bool.or_false, isTy, List.set_cons_zero, List.set_cons_succ, setTg, wipeE, tgSlots, seqItems, biD, bopD, cmpD, List.zip_cons_cons, List.zip_nil_left, List.zip_nil_right, List.foldl_cons, List.foldl_nil, if_neg, Nat.reduceAdd, Nat.reduceSub, reduceIte, h1]) (szl (by simp)) (.cons (fun acc => ⟨_, rfl, by simp [evSs, evS, v_var, v_int, v_bl, v_non, v_str, v_glb, v_tup, v_lst, v_bop, v_neg, v_cmp, v_chn, v_isN, v_notN, v_land, v_lor, v_lnot, v_ite, v_call, v_bi, v_mth, v_idx, v_slc, v_rev, v_isi, v_lrg1, v_lrg2, evEs, evIfs, evIt, evPar, bind_ok, asB, dOf, dsOf, pureD, ofD, ofB, isNon, exitF, exitV, startE, List.length_cons, List.length_nil, List.map_cons, List.map_nil, List.cons_append, List.nil_append, List.append_nil, List.replicate, List.getElem?_cons_zero, List.getElem?_cons_succ, List.take_length, Option.map_some, Option.map_none, if_true, if_false, Bool.false_eq_true, Bool.not_true, Bool.not_false, List.any_cons, List.any_nil, Bool.or_false, isTy, List.set_cons_zero, List.set_cons_succ, setTg, wipeE, tgSlots, seqItems, biD, bopD, cmpD, List.zip_cons_cons, List.zip_nil_left, List.zip_nil_right, List.foldl_cons, List.foldl_nil, if_neg, Nat.reduceAdd, Nat.reduceSub, reduceIte, b0, dOf_d, j2]⟩) .nil)
    have q1 : evE (Cn n) (Gc csts) q__law_place_1 [some (.d (pl ps)), some (.d (.int (k : Int))), some (.d g0.box), some (.d (.list [g0.box])), none, none] m = .ok (.d (.list [.int 0])) m :=
      comp_two (items := [g0.box]) (by simp [evSs, evS, v_var, v_int, v_bl, v_non, v_str, v_glb, v_tup, v_lst, v_bop, v_neg, v_cmp, v_chn, v_isN, v_notN, v_land, v_lor, v_lnot, v_ite, v_call, v_bi, v_mth, v_idx, v_slc, v_rev, v_isi, v_lrg1, v_lrg2, evEs, evIfs, evIt, evPar, bind_ok, asB, dOf, dsOf, pureD, ofD, ofB, isNon, exitF, exitV, startE, List.length_cons, List.length_nil, List.map_cons, List.map_nil, List.cons_append, List.nil_append, List.append_nil, List.replicate, List.getElem?_cons_zero, List.getElem?_cons_succ, List.take_length, Option.map_some, Option.map_none, if_true, if_false, Bool.false_eq_true, Bool.not_true, Bool.not_false, List.any_cons, List.any_nil, Bool.or_false, isTy, List.set_cons_zero, List.set_cons_succ, setTg, wipeE, tgSlots, seqItems, biD, bopD, cmpD, List.zip_cons_cons, List.zip_nil_left, List.zip_nil_right, List.foldl_cons, List.foldl_nil, if_neg, Nat.reduceAdd, Nat.reduceSub, reduceIte]) (szl (by simp)) (.cons (fun acc => ⟨_, rfl, by simp [evSs, evS, v_var, v_int, v_bl, v_non, v_str, v_glb, v_tup, v_lst, v_bop, v_neg, v_cmp, v_chn, v_isN, v_notN, v_land, v_lor, v_lnot, v_ite, v_call, v_bi, v_mth, v_idx, v_slc, v_rev, v_isi, v_lrg1, v_lrg2, evEs, evIfs, evIt, evPar, bind_ok, asB, dOf, dsOf, pureD, ofD, ofB, isNon, exitF, exitV, startE, List.length_cons, List.length_nil, List.map_cons, List.map_nil, List.cons_append, List.nil_append, List.append_nil, List.replicate, List.getElem?_cons_zero, List.getElem?_cons_succ, List.take_length, Option.map_some, Option.map_none, if_true, if_false, Bool.false_eq_true, Bool.not_true, Bool.not_false, List.any_cons, List.any_nil, Bool.or_false, isTy, List.set_cons_zero, List.set_cons_succ, setTg, wipeE, tgSlots, seqItems, biD, bopD, cmpD, List.zip_cons_cons, List.zip_nil_left, List.zip_nil_right, List.foldl_cons, List.foldl_nil, if_neg, Nat.reduceAdd, Nat.reduceSub, reduceIte, dOf_d, d0]⟩) .nil)
    have q2 : evE (Cn n) (Gc csts) q__law_place_2 [some (.d (pl ps)), some (.d (.int (k : Int))), some (.d g0.box), some (.d (.list [g0.box])), none, none] m = .ok (.d (.list [.int 0])) m :=
      comp_two (items := [g0.box]) (by simp [evSs, evS, v_var, v_int, v_bl, v_non, v_str, v_glb, v_tup, v_lst, v_bop, v_neg, v_cmp, v_chn, v_isN, v_notN, v_land, v_lor, v_lnot, v_ite, v_call, v_bi, v_mth, v_idx, v_slc, v_rev, v_isi, v_lrg1, v_lrg2, evEs, evIfs, evIt, evPar, bind_ok, asB, dOf, dsOf, pureD, ofD, ofB, isNon, exitF, exitV, startE, List.length_cons, List.length_nil, List.map_cons, List.map_nil, List.cons_append, List.nil_append, List.append_nil, List.replicate, List.getElem?_cons_zero, List.getElem?_cons_succ, List.take_length, Option.map_some, Option.map_none, if_true, if_false, Bool.false_eq_true, Bool.not_true, Bool.not_false, List.any_cons, List.any_nil, Bool.or_false, isTy, List.set_cons_zero, List.set_cons_succ, setTg, wipeE, tgSlots, seqItems, biD, bopD, cmpD, List.zip_cons_cons, List.zip_nil_left, List.zip_nil_right, List.foldl_cons, List.foldl_nil, if_neg, Nat.reduceAdd, Nat.reduceSub, reduceIte]) (szl (by simp)) (.cons (fun acc => ⟨_, rfl, by simp [evSs, evS, v_var, v_int, v_bl, v_non, v_str, v_glb, v_tup, v_lst, v_bop, v_neg, v_cmp, v_chn, v_isN, v_notN, v_land, v_lor, v_lnot, v_ite, v_call, v_bi, v_mth, v_idx, v_slc, v_rev, v_isi, v_lrg1, v_lrg2, evEs, evIfs, evIt, evPar, bind_ok, asB, dOf, dsOf, pureD, ofD, ofB, isNon, exitF, exitV, startE, List.length_cons, List.length_nil, List.map_cons, List.map_nil, List.cons_append, List.nil_append, List.append_nil, List.replicate, List.getElem?_cons_zero, List.getElem?_cons_succ, List.take_length, Option.map_some, Option.map_none, if_true, if_false, Bool.false_eq_true, Bool.not_true, Bool.not_false, List.any_cons, List.any_nil, Bool.or_false, isTy, List.set_cons_zero, List.set_cons_succ, setTg, wipeE, tgSlots, seqItems, biD, bopD, cmpD, List.zip_cons_cons, List.zip_nil_left, List.zip_nil_right, List.foldl_cons, List.foldl_nil, if_neg, Nat.reduceAdd, Nat.reduceSub, reduceIte, dOf_d, d1]⟩) .nil)
    simp [f__law_place, b__law_place, evSs, evS, v_var, v_int, v_bl, v_non, v_str, v_glb, v_tup, v_lst, v_bop, v_neg, v_cmp, v_chn, v_isN, v_notN, v_land, v_lor, v_lnot, v_ite, v_call, v_bi, v_mth, v_idx, v_slc, v_rev, v_isi, v_lrg1, v_lrg2, evEs, evIfs, evIt, evPar, bind_ok, asB, dOf, dsOf, pureD, ofD, ofB, isNon, exitF, exitV, startE, List.length_cons, List.length_nil, List.map_cons, List.map_nil, List.cons_append, List.nil_append, List.append_nil, List.replicate, List.getElem?_cons_zero, List.getElem?_cons_succ, List.take_length, Option.map_some, Option.map_none, if_true, if_false, Bool.false_eq_true, Bool.not_true, Bool.not_false, List.any_cons, List.any_nil, Bool.or_false, isTy, List.set_cons_zero, List.set_cons_succ, setTg, wipeE, tgSlots, seqItems, biD, bopD, cmpD, List.zip_cons_cons, List.zip_nil_left, List.zip_nil_right, List.foldl_cons, List.foldl_nil, if_neg, Nat.reduceAdd, Nat.reduceSub, reduceIte, b1, i2, q0, q1, q2, dOf_d, intsOf, x2, x3]
    rfl
  · have hu : upsOf k = [.int (k : Int), .int 0] := by simp [upsOf, h]
    rw [hu] at h1
    have q0 : evE (Cn n) (Gc csts) q__law_place_0 [some (.d (pl ps)), some (.d (.int (k : Int))), some (.d P.box), none, none, none] m = .ok (.d (.list [P.box, g0.box])) m :=
      comp_two (items := [.int (k : Int), .int 0]) (by simp [evSs, evS, v_var, v_int, v_bl, v_non, v_str, v_glb, v_tup, v_lst, v_bop, v_neg, v_cmp, v_chn, v_isN, v_notN, v_land, v_lor, v_lnot, v_ite, v_call, v_bi, v_mth, v_idx, v_slc, v_rev, v_isi, v_lrg1, v_lrg2, evEs, evIfs, evIt, evPar, bind_ok, asB, dOf, dsOf, pureD, ofD, ofB, isNon, exitF, exitV, startE, List.length_cons, List.length_nil, List.map_cons, List.map_nil, List.cons_append, List.nil_append, List.append_nil, List.replicate, List.getElem?_cons_zero, List.getElem?_cons_succ, List.take_length, Option.map_some, Option.map_none, if_true, if_false, Bool.false_eq_true, Bool.not_true, Bool.not_false, List.any_cons, List.any_nil, Bool.or_false, isTy, List.set_cons_zero, List.set_cons_succ, setTg, wipeE, tgSlots, seqItems, biD, bopD, cmpD, List.zip_cons_cons, List.zip_nil_left, List.zip_nil_right, List.foldl_cons, List.foldl_nil, if_neg, Nat.reduceAdd, Nat.reduceSub, reduceIte, h1]) (szl (by simp)) (.cons (fun acc => ⟨_, rfl, by simp [evSs, evS, v_var, v_int, v_bl, v_non, v_str, v_glb, v_tup, v_lst, v_bop, v_neg, v_cmp, v_chn, v_isN, v_notN, v_land, v_lor, v_lnot, v_ite, v_call, v_bi, v_mth, v_idx, v_slc, v_rev, v_isi, v_lrg1, v_lrg2, evEs, evIfs, evIt, evPar, bind_ok, asB, dOf, dsOf, pureD, ofD, ofB, isNon, exitF, exitV, startE, List.length_cons, List.length_nil, List.map_cons, List.map_nil, List.cons_append, List.nil_append, List.append_nil, List.replicate, List.getElem?_cons_zero, List.getElem?_cons_succ, List.take_length, Option.map_some, Option.map_none, if_true, if_false, Bool.false_eq_true, Bool.not_true, Bool.not_false, List.any_cons, List.any_nil, Bool.or_false, isTy, List.set_cons_zero, List.set_cons_succ, setTg, wipeE, tgSlots, seqItems, biD, bopD, cmpD, List.zip_cons_cons, List.zip_nil_left, List.zip_nil_right, List.foldl_cons, List.foldl_nil, if_neg, Nat.reduceAdd, Nat.reduceSub, reduceIte, b1, dOf_d, i2]⟩) (.cons (fun acc => ⟨_, rfl, by simp [evSs, evS, v_var, v_int, v_bl, v_non, v_str, v_glb, v_tup, v_lst, v_bop, v_neg, v_cmp, v_chn, v_isN, v_notN, v_land, v_lor, v_lnot, v_ite, v_call, v_bi, v_mth, v_idx, v_slc, v_rev, v_isi, v_lrg1, v_lrg2, evEs, evIfs, evIt, evPar, bind_ok, asB, dOf, dsOf, pureD, ofD, ofB, isNon, exitF, exitV, startE, List.length_cons, List.length_nil, List.map_cons, List.map_nil, List.cons_append, List.nil_append, List.append_nil, List.replicate, List.getElem?_cons_zero, List.getElem?_cons_succ, List.take_length, Option.map_some, Option.map_none, if_true, if_false, Bool.false_eq_true, Bool.not_true, Bool.not_false, List.any_cons, List.any_nil, Bool.or_false, isTy, List.set_cons_zero, List.set_cons_succ, setTg, wipeE, tgSlots, seqItems, biD, bopD, cmpD, List.zip_cons_cons, List.zip_nil_left, List.zip_nil_right, List.foldl_cons, List.foldl_nil, if_neg, Nat.reduceAdd, Nat.reduceSub, reduceIte, b0, dOf_d, j2]⟩) .nil))
    have q1 : evE (Cn n) (Gc csts) q__law_place_1 [some (.d (pl ps)), some (.d (.int (k : Int))), some (.d P.box), some (.d (.list [P.box, g0.box])), none, none] m = .ok (.d (.list [.int P.x, .int 0])) m :=
      comp_two (items := [P.box, g0.box]) (by simp [evSs, evS, v_var, v_int, v_bl, v_non, v_str, v_glb, v_tup, v_lst, v_bop, v_neg, v_cmp, v_chn, v_isN, v_notN, v_land, v_lor, v_lnot, v_ite, v_call, v_bi, v_mth, v_idx, v_slc, v_rev, v_isi, v_lrg1, v_lrg2, evEs, evIfs, evIt, evPar, bind_ok, asB, dOf, dsOf, pureD, ofD, ofB, isNon, exitF, exitV, startE, List.length_cons, List.length_nil, List.map_cons, List.map_nil, List.cons_append, List.nil_append, List.append_nil, List.replicate, List.getElem?_cons_zero, List.getElem?_cons_succ, List.take_length, Option.map_some, Option.map_none, if_true, if_false, Bool.false_eq_true, Bool.not_true, Bool.not_false, List.any_cons, List.any_nil, Bool.or_false, isTy, List.set_cons_zero, List.set_cons_succ, setTg, wipeE, tgSlots, seqItems, biD, bopD, cmpD, List.zip_cons_cons, List.zip_nil_left, List.zip_nil_right, List.foldl_cons, List.foldl_nil, if_neg, Nat.reduceAdd, Nat.reduceSub, reduceIte]) (szl (by simp)) (.cons (fun acc => ⟨_, rfl, by simp [evSs, evS, v_var, v_int, v_bl, v_non, v_str, v_glb, v_tup, v_lst, v_bop, v_neg, v_cmp, v_chn, v_isN, v_notN, v_land, v_lor, v_lnot, v_ite, v_call, v_bi, v_mth, v_idx, v_slc, v_rev, v_isi, v_lrg1, v_lrg2, evEs, evIfs, evIt, evPar, bind_ok, asB, dOf, dsOf, pureD, ofD, ofB, isNon, exitF, exitV, startE, List.length_cons, List.length_nil, List.map_cons, List.map_nil, List.cons_append, List.nil_append, List.append_nil, List.replicate, List.getElem?_cons_zero, List.getElem?_cons_succ, List.take_length, Option.map_some, Option.map_none, if_true, if_false, Bool.false_eq_true, Bool.not_true, Bool.not_false, List.any_cons, List.any_nil, Bool.or_false, isTy, List.set_cons_zero, List.set_cons_succ, setTg, wipeE, tgSlots, seqItems, biD, bopD, cmpD, List.zip_cons_cons, List.zip_nil_left, List.zip_nil_right, List.foldl_cons, List.foldl_nil, if_neg, Nat.reduceAdd, Nat.reduceSub, reduceIte, dOf_d, x0]⟩) (.cons (fun acc => ⟨_, rfl, by simp [evSs, evS, v_var, v_int, v_bl, v_non, v_str, v_glb, v_tup, v_lst, v_bop, v_neg, v_cmp, v_chn, v_isN, v_notN, v_land, v_lor, v_lnot, v_ite, v_call, v_bi, v_mth, v_idx, v_slc, v_rev, v_isi, v_lrg1, v_lrg2, evEs, evIfs, evIt, evPar, bind_ok, asB, dOf, dsOf, pureD, ofD, ofB, isNon, exitF, exitV, startE, List.length_cons, List.length_nil, List.map_cons, List.map_nil, List.cons_append, List.nil_append, List.append_nil, List.replicate, List.getElem?_cons_zero, List.getElem?_cons_succ, List.take_length, Option.map_some, Option.map_none, if_true, if_false, Bool.false_eq_true, Bool.not_true, Bool.not_false, List.any_cons, List.any_nil, Bool.or_false, isTy, List.set_cons_zero, List.set_cons_succ, setTg, wipeE, tgSlots, seqItems, biD, bopD, cmpD, List.zip_cons_cons, List.zip_nil_left, List.zip_nil_right, List.foldl_cons, List.foldl_nil, if_neg, Nat.reduceAdd, Nat.reduceSub, reduceIte, dOf_d, d0]⟩) .nil))
    have q2 : evE (Cn n) (Gc csts) q__law_place_2 [some (.d (pl ps)), some (.d (.int (k : Int))), some (.d P.box), some (.d (.list [P.box, g0.box])), none, none] m = .ok (.d (.list [.int P.y, .int 0])) m :=
      comp_two (items := [P.box, g0.box]) (by simp [evSs, evS, v_var, v_int, v_bl, v_non, v_str, v_glb, v_tup, v_lst, v_bop, v_neg, v_cmp, v_chn, v_isN, v_notN, v_land, v_lor, v_lnot, v_ite, v_call, v_bi, v_mth, v_idx, v_slc, v_rev, v_isi, v_lrg1, v_lrg2, evEs, evIfs, evIt, evPar, bind_ok, asB, dOf, dsOf, pureD, ofD, ofB, isNon, exitF, exitV, startE, List.length_cons, List.length_nil, List.map_cons, List.map_nil, List.cons_append, List.nil_append, List.append_nil, List.replicate, List.getElem?_cons_zero, List.getElem?_cons_succ, List.take_length, Option.map_some, Option.map_none, if_true, if_false, Bool.false_eq_true, Bool.not_true, Bool.not_false, List.any_cons, List.any_nil, Bool.or_false, isTy, List.set_cons_zero, List.set_cons_succ, setTg, wipeE, tgSlots, seqItems, biD, bopD, cmpD, List.zip_cons_cons, List.zip_nil_left, List.zip_nil_right, List.foldl_cons, List.foldl_nil, if_neg, Nat.reduceAdd, Nat.reduceSub, reduceIte]) (szl (by simp)) (.cons (fun acc => ⟨_, rfl, by simp [evSs, evS, v_var, v_int, v_bl, v_non, v_str, v_glb, v_tup, v_lst, v_bop, v_neg, v_cmp, v_chn, v_isN, v_notN, v_land, v_lor, v_lnot, v_ite, v_call, v_bi, v_mth, v_idx, v_slc, v_rev, v_isi, v_lrg1, v_lrg2, evEs, evIfs, evIt, evPar, bind_ok, asB, dOf, dsOf, pureD, ofD, ofB, isNon, exitF, exitV, startE, List.length_cons, List.length_nil, List.map_cons, List.map_nil, List.cons_append, List.nil_append, List.append_nil, List.replicate, List.getElem?_cons_zero, List.getElem?_cons_succ, List.take_length, Option.map_some, Option.map_none, if_true, if_false, Bool.false_eq_true, Bool.not_true, Bool.not_false, List.any_cons, List.any_nil, Bool.or_false, isTy, List.set_cons_zero, List.set_cons_succ, setTg, wipeE, tgSlots, seqItems, biD, bopD, cmpD, List.zip_cons_cons, List.zip_nil_left, List.zip_nil_right, List.foldl_cons, List.foldl_nil, if_neg, Nat.reduceAdd, Nat.reduceSub, reduceIte, dOf_d, x1]⟩) (.cons (fun acc => ⟨_, rfl, by simp [evSs, evS, v_var, v_int, v_bl, v_non, v_str, v_glb, v_tup, v_lst, v_bop, v_neg, v_cmp, v_chn, v_isN, v_notN, v_land, v_lor, v_lnot, v_ite, v_call, v_bi, v_mth, v_idx, v_slc, v_rev, v_isi, v_lrg1, v_lrg2, evEs, evIfs, evIt, evPar, bind_ok, asB, dOf, dsOf, pureD, ofD, ofB, isNon, exitF, exitV, startE, List.length_cons, List.length_nil, List.map_cons, List.map_nil, List.cons_append, List.nil_append, List.append_nil, List.replicate, List.getElem?_cons_zero, List.getElem?_cons_succ, List.take_length, Option.map_some, Option.map_none, if_true, if_false, Bool.false_eq_true, Bool.not_true, Bool.not_false, List.any_cons, List.any_nil, Bool.or_false, isTy, List.set_cons_zero, List.set_cons_succ, setTg, wipeE, tgSlots, seqItems, biD, bopD, cmpD, List.zip_cons_cons, List.zip_nil_left, List.zip_nil_right, List.foldl_cons, List.foldl_nil, if_neg, Nat.reduceAdd, Nat.reduceSub, reduceIte, dOf_d, d1]⟩) .nil))
    simp [f__law_place, b__law_place, evSs, evS, v_var, v_int, v_bl, v_non, v_str, v_glb, v_tup, v_lst, v_bop, v_neg, v_cmp, v_chn, v_isN, v_notN, v_land, v_lor, v_lnot, v_ite, v_call, v_bi, v_mth, v_idx, v_slc, v_rev, v_isi, v_lrg1, v_lrg2, evEs, evIfs, evIt, evPar, bind_ok, asB, dOf, dsOf, pureD, ofD, ofB, isNon, exitF, exitV, startE, List.length_cons, List.length_nil, List.map_cons, List.map_nil, List.cons_append, List.nil_append, List.append_nil, List.replicate, List.getElem?_cons_zero, List.getElem?_cons_succ, List.take_length, Option.map_some, Option.map_none, if_true, if_false, Bool.false_eq_true, Bool.not_true, Bool.not_false, List.any_cons, List.any_nil, Bool.or_false, isTy, List.set_cons_zero, List.set_cons_succ, setTg, wipeE, tgSlots, seqItems, biD, bopD, cmpD, List.zip_cons_cons, List.zip_nil_left, List.zip_nil_right, List.foldl_cons, List.foldl_nil, if_neg, Nat.reduceAdd, Nat.reduceSub, reduceIte, b1, i2, q0, q1, q2, dOf_d, intsOf, x2, x3]
    rfl
theorem gt_I (a b : Int) : cmpD .gt (.int a) (.int b) = some (decide (b < a)) := rfl
theorem c_seen (hn : 4 ≤ n) (F : Flat ps) (hk : (g0 :: ps)[k + 1]? = some P) : Cn n 49 [.d (pl ps), .d (.int ((k + 1 : Nat) : Int))] m = .ok (.d (seenD P)) m := by
  obtain ⟨n, rfl⟩ := up1 (by omega : 1 ≤ n)
  rw [call_def (fn := f__law_seen) rfl rfl]
  have h1 := c_ups (m := m) (by omega : 2 ≤ n) F hk
  have hu : upsOf (k + 1) = [.int ((k + 1 : Nat) : Int), .int 0] := by simp [upsOf]
  rw [hu] at h1
  have pl1 : ∀ m, Cn n 48 [.d (pl ps), .d (.int ((k + 1 : Nat) : Int))] m = .ok (.d P.box) m := fun m => c_place (m := m) (by omega : 3 ≤ n) F hk
  have pl0 : ∀ m, Cn n 48 [.d (pl ps), .d (.int 0)] m = .ok (.d g0.box) m := fun m => c_place (k := 0) (m := m) (by omega : 3 ≤ n) F rfl
  generalize ((k + 1 : Nat) : Int) = K at *
  have q0 : evE (Cn n) (Gc csts) q__law_seen_0 [some (.d (pl ps)), some (.d (.int K)), none, none, none, none, none, none, none] m = .ok (.d (.list [P.box, g0.box])) m :=
    comp_two (items := [.int K, .int 0]) (by simp [evSs, evS, v_var, v_int, v_bl, v_non, v_str, v_glb, v_tup, v_lst, v_bop, v_neg, v_cmp, v_chn, v_isN, v_notN, v_land, v_lor, v_lnot, v_ite, v_call, v_bi, v_mth, v_idx, v_slc, v_rev, v_isi, v_lrg1, v_lrg2, evEs, evIfs, evIt, evPar, bind_ok, asB, dOf, dsOf, pureD, ofD, ofB, isNon, exitF, exitV, startE, List.length_cons, List.length_nil, List.map_cons, List.map_nil, List.cons_append, List.nil_append, List.append_nil, List.replicate, List.getElem?_cons_zero, List.getElem?_cons_succ, List.take_length, Option.map_some, Option.map_none, if_true, if_false, Bool.false_eq_true, Bool.not_true, Bool.not_false, List.any_cons, List.any_nil, Bool.or_false, isTy, List.set_cons_zero, List.set_cons_succ, setTg, wipeE, tgSlots, seqItems, biD, bopD, cmpD, List.zip_cons_cons, List.zip_nil_left, List.zip_nil_right, List.foldl_cons, List.foldl_nil, if_neg, Nat.reduceAdd, Nat.reduceSub, reduceIte, h1]) (szl (by simp)) (.cons (fun acc => ⟨_, rfl, by simp [evSs, evS, v_var, v_int, v_bl, v_non, v_str, v_glb, v_tup, v_lst, v_bop, v_neg, v_cmp, v_chn, v_isN, v_notN, v_land, v_lor, v_lnot, v_ite, v_call, v_bi, v_mth, v_idx, v_slc, v_rev, v_isi, v_lrg1, v_lrg2, evEs, evIfs, evIt, evPar, bind_ok, asB, dOf, dsOf, pureD, ofD, ofB, isNon, exitF, exitV, startE, List.length_cons, List.length_nil, List.map_cons, List.map_nil, List.cons_append, List.nil_append, List.append_nil, List.replicate, List.getElem?_cons_zero, List.getElem?_cons_succ, List.take_length, Option.map_some, Option.map_none, if_true, if_false, Bool.false_eq_true, Bool.not_true, Bool.not_false, List.any_cons, List.any_nil, Bool.or_false, isTy, List.set_cons_zero, List.set_cons_succ, setTg, wipeE, tgSlots, seqItems, biD, bopD, cmpD, List.zip_cons_cons, List.zip_nil_left, List.zip_nil_right, List.foldl_cons, List.foldl_nil, if_neg, Nat.reduceAdd, Nat.reduceSub, reduceIte, pl1]⟩) (.cons (fun acc => ⟨_, rfl, by simp [evSs, evS, v_var, v_int, v_bl, v_non, v_str, v_glb, v_tup, v_lst, v_bop, v_neg, v_cmp, v_chn, v_isN, v_notN, v_land, v_lor, v_lnot, v_ite, v_call, v_bi, v_mth, v_idx, v_slc, v_rev, v_isi, v_lrg1, v_lrg2, evEs, evIfs, evIt, evPar, bind_ok, asB, dOf, dsOf, pureD, ofD, ofB, isNon, exitF, exitV, startE, List.length_cons, List.length_nil, List.map_cons, List.map_nil, List.cons_append, List.nil_append, List.append_nil, List.replicate, List.getElem?_cons_zero, List.getElem?_cons_succ, List.take_length, Option.map_some, Option.map_none, if_true, if_false, Bool.false_eq_true, Bool.not_true, Bool.not_false, List.any_cons, List.any_nil, Bool.or_false, isTy, List.set_cons_zero, List.set_cons_succ, setTg, wipeE, tgSlots, seqItems, biD, bopD, cmpD, List.zip_cons_cons, List.zip_nil_left, List.zip_nil_right, List.foldl_cons, List.foldl_nil, if_neg, Nat.reduceAdd, Nat.reduceSub, reduceIte, pl0]⟩) .nil))
  obtain ⟨b0, b1, b2, b3⟩ := bx_ix P
  have d0 : idxD g0.box (.int 0) = some (.int 0) := (bx_ix g0).1
  have d1 : idxD g0.box (.int 1) = some (.int 0) := (bx_ix g0).2.1
  have d2 : idxD g0.box (.int 2) = some (.int 60) := (bx_ix g0).2.2.1
  have d3 : idxD g0.box (.int 3) = some (.int 60) := (bx_ix g0).2.2.2
  have q1 : ∀ a b c d, evE (Cn n) (Gc csts) q__law_seen_1 [some (.d (pl ps)), some (.d (.int K)), some (.d (.list [P.box, g0.box])), a, b, c, d, none, none] m = .ok (.d (.list [.int P.x, .int 0])) m := fun a b c d =>
    comp_two (items := [P.box, g0.box]) (by simp [evSs, evS, v_var, v_int, v_bl, v_non, v_str, v_glb, v_tup, v_lst, v_bop, v_neg, v_cmp, v_chn, v_isN, v_notN, v_land, v_lor, v_lnot, v_ite, v_call, v_bi, v_mth, v_idx, v_slc, v_rev, v_isi, v_lrg1, v_lrg2, evEs, evIfs, evIt, evPar, bind_ok, asB, dOf, dsOf, pureD, ofD, ofB, isNon, exitF, exitV, startE, List.length_cons, List.length_nil, List.map_cons, List.map_nil, List.cons_append, List.nil_append, List.append_nil, List.replicate, List.getElem?_cons_zero, List.getElem?_cons_succ, List.take_length, Option.map_some, Option.map_none, if_true, if_false, Bool.false_eq_true, Bool.not_true, Bool.not_false, List.any_cons, List.any_nil, Bool.or_false, isTy, List.set_cons_zero, List.set_cons_succ, setTg, wipeE, tgSlots, seqItems, biD, bopD, cmpD, List.zip_cons_cons, List.zip_nil_left, List.zip_nil_right, List.foldl_cons, List.foldl_nil, if_neg, Nat.reduceAdd, Nat.reduceSub, reduceIte]) (szl (by simp)) (.cons (fun acc => ⟨_, rfl, by simp [evSs, evS, v_var, v_int, v_bl, v_non, v_str, v_glb, v_tup, v_lst, v_bop, v_neg, v_cmp, v_chn, v_isN, v_notN, v_land, v_lor, v_lnot, v_ite, v_call, v_bi, v_mth, v_idx, v_slc, v_rev, v_isi, v_lrg1, v_lrg2, evEs, evIfs, evIt, evPar, bind_ok, asB, dOf, dsOf, pureD, ofD, ofB, isNon, exitF, exitV, startE, List.length_cons, List.length_nil, List.map_cons, List.map_nil, List.cons_append, List.nil_append, List.append_nil, List.replicate, List.getElem?_cons_zero, List.getElem?_cons_succ, List.take_length, Option.map_some, Option.map_none, if_true, if_false, Bool.false_eq_true, Bool.not_true, Bool.not_false, List.any_cons, List.any_nil, Bool.or_false, isTy, List.set_cons_zero, List.set_cons_succ, setTg, wipeE, tgSlots, seqItems, biD, bopD, cmpD, List.zip_cons_cons, List.zip_nil_left, List.zip_nil_right, List.foldl_cons, List.foldl_nil, if_neg, Nat.reduceAdd, Nat.reduceSub, reduceIte, dOf_d, b0]⟩) (.cons (fun acc => ⟨_, rfl, by simp [evSs, evS, v_var, v_int, v_bl, v_non, v_str, v_glb, v_tup, v_lst, v_bop, v_neg, v_cmp, v_chn, v_isN, v_notN, v_land, v_lor, v_lnot, v_ite, v_call, v_bi, v_mth, v_idx, v_slc, v_rev, v_isi, v_lrg1, v_lrg2, evEs, evIfs, evIt, evPar, bind_ok, asB, dOf, dsOf, pureD, ofD, ofB, isNon, exitF, exitV, startE, List.length_cons, List.length_nil, List.map_cons, List.map_nil, List.cons_append, List.nil_append, List.append_nil, List.replicate, List.getElem?_cons_zero, List.getElem?_cons_succ, List.take_length, Option.map_some, Option.map_none, if_true, if_false, Bool.false_eq_true, Bool.not_true, Bool.not_false, List.any_cons, List.any_nil, Bool.or_false, isTy, List.set_cons_zero, List.set_cons_succ, setTg, wipeE, tgSlots, seqItems, biD, bopD, cmpD, List.zip_cons_cons, List.zip_nil_left, List.zip_nil_right, List.foldl_cons, List.foldl_nil, if_neg, Nat.reduceAdd, Nat.reduceSub, reduceIte, dOf_d, d0]⟩) .nil))
  have q2 : ∀ a b c d, evE (Cn n) (Gc csts) q__law_seen_2 [some (.d (pl ps)), some (.d (.int K)), some (.d (.list [P.box, g0.box])), a, b, c, d, none, none] m = .ok (.d (.list [.int P.y, .int 0])) m := fun a b c d =>
    comp_two (items := [P.box, g0.box]) (by simp [evSs, evS, v_var, v_int, v_bl, v_non, v_str, v_glb, v_tup, v_lst, v_bop, v_neg, v_cmp, v_chn, v_isN, v_notN, v_land, v_lor, v_lnot, v_ite, v_call, v_bi, v_mth, v_idx, v_slc, v_rev, v_isi, v_lrg1, v_lrg2, evEs, evIfs, evIt, evPar, bind_ok, asB, dOf, dsOf, pureD, ofD, ofB, isNon, exitF, exitV, startE, List.length_cons, List.length_nil, List.map_cons, List.map_nil, List.cons_append, List.nil_append, List.append_nil, List.replicate, List.getElem?_cons_zero, List.getElem?_cons_succ, List.take_length, Option.map_some, Option.map_none, if_true, if_false, Bool.false_eq_true, Bool.not_true, Bool.not_false, List.any_cons, List.any_nil, Bool.or_false, isTy, List.set_cons_zero, List.set_cons_succ, setTg, wipeE, tgSlots, seqItems, biD, bopD, cmpD, List.zip_cons_cons, List.zip_nil_left, List.zip_nil_right, List.foldl_cons, List.foldl_nil, if_neg, Nat.reduceAdd, Nat.reduceSub, reduceIte]) (szl (by simp)) (.cons (fun acc => ⟨_, rfl, by simp [evSs, evS, v_var, v_int, v_bl, v_non, v_str, v_glb, v_tup, v_lst, v_bop, v_neg, v_cmp, v_chn, v_isN, v_notN, v_land, v_lor, v_lnot, v_ite, v_call, v_bi, v_mth, v_idx, v_slc, v_rev, v_isi, v_lrg1, v_lrg2, evEs, evIfs, evIt, evPar, bind_ok, asB, dOf, dsOf, pureD, ofD, ofB, isNon, exitF, exitV, startE, List.length_cons, List.length_nil, List.map_cons, List.map_nil, List.cons_append, List.nil_append, List.append_nil, List.replicate, List.getElem?_cons_zero, List.getElem?_cons_succ, List.take_length, Option.map_some, Option.map_none, if_true, if_false, Bool.false_eq_true, Bool.not_true, Bool.not_false, List.any_cons, List.any_nil, Bool.or_false, isTy, List.set_cons_zero, List.set_cons_succ, setTg, wipeE, tgSlots, seqItems, biD, bopD, cmpD, List.zip_cons_cons, List.zip_nil_left, List.zip_nil_right, List.foldl_cons, List.foldl_nil, if_neg, Nat.reduceAdd, Nat.reduceSub, reduceIte, dOf_d, b1]⟩) (.cons (fun acc => ⟨_, rfl, by simp [evSs, evS, v_var, v_int, v_bl, v_non, v_str, v_glb, v_tup, v_lst, v_bop, v_neg, v_cmp, v_chn, v_isN, v_notN, v_land, v_lor, v_lnot, v_ite, v_call, v_bi, v_mth, v_idx, v_slc, v_rev, v_isi, v_lrg1, v_lrg2, evEs, evIfs, evIt, evPar, bind_ok, asB, dOf, dsOf, pureD, ofD, ofB, isNon, exitF, exitV, startE, List.length_cons, List.length_nil, List.map_cons, List.map_nil, List.cons_append, List.nil_append, List.append_nil, List.replicate, List.getElem?_cons_zero, List.getElem?_cons_succ, List.take_length, Option.map_some, Option.map_none, if_true, if_false, Bool.false_eq_true, Bool.not_true, Bool.not_false, List.any_cons, List.any_nil, Bool.or_false, isTy, List.set_cons_zero, List.set_cons_succ, setTg, wipeE, tgSlots, seqItems, biD, bopD, cmpD, List.zip_cons_cons, List.zip_nil_left, List.zip_nil_right, List.foldl_cons, List.foldl_nil, if_neg, Nat.reduceAdd, Nat.reduceSub, reduceIte, dOf_d, d1]⟩) .nil))
  have q3 : ∀ a b c d, evE (Cn n) (Gc csts) q__law_seen_3 [some (.d (pl ps)), some (.d (.int K)), some (.d (.list [P.box, g0.box])), a, b, c, d, none, none] m = .ok (.d (.list [.int (P.x + P.w), .int 60])) m := fun a b c d =>
    comp_two (items := [P.box, g0.box]) (by simp [evSs, evS, v_var, v_int, v_bl, v_non, v_str, v_glb, v_tup, v_lst, v_bop, v_neg, v_cmp, v_chn, v_isN, v_notN, v_land, v_lor, v_lnot, v_ite, v_call, v_bi, v_mth, v_idx, v_slc, v_rev, v_isi, v_lrg1, v_lrg2, evEs, evIfs, evIt, evPar, bind_ok, asB, dOf, dsOf, pureD, ofD, ofB, isNon, exitF, exitV, startE, List.length_cons, List.length_nil, List.map_cons, List.map_nil, List.cons_append, List.nil_append, List.append_nil, List.replicate, List.getElem?_cons_zero, List.getElem?_cons_succ, List.take_length, Option.map_some, Option.map_none, if_true, if_false, Bool.false_eq_true, Bool.not_true, Bool.not_false, List.any_cons, List.any_nil, Bool.or_false, isTy, List.set_cons_zero, List.set_cons_succ, setTg, wipeE, tgSlots, seqItems, biD, bopD, cmpD, List.zip_cons_cons, List.zip_nil_left, List.zip_nil_right, List.foldl_cons, List.foldl_nil, if_neg, Nat.reduceAdd, Nat.reduceSub, reduceIte]) (szl (by simp)) (.cons (fun acc => ⟨_, rfl, by simp [evSs, evS, v_var, v_int, v_bl, v_non, v_str, v_glb, v_tup, v_lst, v_bop, v_neg, v_cmp, v_chn, v_isN, v_notN, v_land, v_lor, v_lnot, v_ite, v_call, v_bi, v_mth, v_idx, v_slc, v_rev, v_isi, v_lrg1, v_lrg2, evEs, evIfs, evIt, evPar, bind_ok, asB, dOf, dsOf, pureD, ofD, ofB, isNon, exitF, exitV, startE, List.length_cons, List.length_nil, List.map_cons, List.map_nil, List.cons_append, List.nil_append, List.append_nil, List.replicate, List.getElem?_cons_zero, List.getElem?_cons_succ, List.take_length, Option.map_some, Option.map_none, if_true, if_false, Bool.false_eq_true, Bool.not_true, Bool.not_false, List.any_cons, List.any_nil, Bool.or_false, isTy, List.set_cons_zero, List.set_cons_succ, setTg, wipeE, tgSlots, seqItems, biD, bopD, cmpD, List.zip_cons_cons, List.zip_nil_left, List.zip_nil_right, List.foldl_cons, List.foldl_nil, if_neg, Nat.reduceAdd, Nat.reduceSub, reduceIte, dOf_d, b0, b2]⟩) (.cons (fun acc => ⟨_, rfl, by simp [evSs, evS, v_var, v_int, v_bl, v_non, v_str, v_glb, v_tup, v_lst, v_bop, v_neg, v_cmp, v_chn, v_isN, v_notN, v_land, v_lor, v_lnot, v_ite, v_call, v_bi, v_mth, v_idx, v_slc, v_rev, v_isi, v_lrg1, v_lrg2, evEs, evIfs, evIt, evPar, bind_ok, asB, dOf, dsOf, pureD, ofD, ofB, isNon, exitF, exitV, startE, List.length_cons, List.length_nil, List.map_cons, List.map_nil, List.cons_append, List.nil_append, List.append_nil, List.replicate, List.getElem?_cons_zero, List.getElem?_cons_succ, List.take_length, Option.map_some, Option.map_none, if_true, if_false, Bool.false_eq_true, Bool.not_true, Bool.not_false, List.any_cons, List.any_nil, Bool.or_false, isTy, List.set_cons_zero, List.set_cons_succ, setTg, wipeE, tgSlots, seqItems, biD, bopD, cmpD, List.zip_cons_cons, List.zip_nil_left, List.zip_nil_right, List.foldl_cons, List.foldl_nil, if_neg, Nat.reduceAdd, Nat.reduceSub, reduceIte, dOf_d, d0, d2]⟩) .nil))
  have q4 : ∀ a b c d, evE (Cn n) (Gc csts) q__law_seen_4 [some (.d (pl ps)), some (.d (.int K)), some (.d (.list [P.box, g0.box])), a, b, c, d, none, none] m = .ok (.d (.list [.int (P.y + P.h), .int 60])) m := fun a b c d =>
    comp_two (items := [P.box, g0.box]) (by simp [evSs, evS, v_var, v_int, v_bl, v_non, v_str, v_glb, v_tup, v_lst, v_bop, v_neg, v_cmp, v_chn, v_isN, v_notN, v_land, v_lor, v_lnot, v_ite, v_call, v_bi, v_mth, v_idx, v_slc, v_rev, v_isi, v_lrg1, v_lrg2, evEs, evIfs, evIt, evPar, bind_ok, asB, dOf, dsOf, pureD, ofD, ofB, isNon, exitF, exitV, startE, List.length_cons, List.length_nil, List.map_cons, List.map_nil, List.cons_append, List.nil_append, List.append_nil, List.replicate, List.getElem?_cons_zero, List.getElem?_cons_succ, List.take_length, Option.map_some, Option.map_none, if_true, if_false, Bool.false_eq_true, Bool.not_true, Bool.not_false, List.any_cons, List.any_nil, Bool.or_false, isTy, List.set_cons_zero, List.set_cons_succ, setTg, wipeE, tgSlots, seqItems, biD, bopD, cmpD, List.zip_cons_cons, List.zip_nil_left, List.zip_nil_right, List.foldl_cons, List.foldl_nil, if_neg, Nat.reduceAdd, Nat.reduceSub, reduceIte]) (szl (by simp)) (.cons (fun acc => ⟨_, rfl, by simp [evSs, evS, v_var, v_int, v_bl, v_non, v_str, v_glb, v_tup, v_lst, v_bop, v_neg, v_cmp, v_chn, v_isN, v_notN, v_land, v_lor, v_lnot, v_ite, v_call, v_bi, v_mth, v_idx, v_slc, v_rev, v_isi, v_lrg1, v_lrg2, evEs, evIfs, evIt, evPar, bind_ok, asB, dOf, dsOf, pureD, ofD, ofB, isNon, exitF, exitV, startE, List.length_cons, List.length_nil, List.map_cons, List.map_nil, List.cons_append, List.nil_append, List.append_nil, List.replicate, List.getElem?_cons_zero, List.getElem?_cons_succ, List.take_length, Option.map_some, Option.map_none, if_true, if_false, Bool.false_eq_true, Bool.not_true, Bool.not_false, List.any_cons, List.any_nil, Bool.or_false, isTy, List.set_cons_zero, List.set_cons_succ, setTg, wipeE, tgSlots, seqItems, biD, bopD, cmpD, List.zip_cons_cons, List.zip_nil_left, List.zip_nil_right, List.foldl_cons, List.foldl_nil, if_neg, Nat.reduceAdd, Nat.reduceSub, reduceIte, dOf_d, b1, b3]⟩) (.cons (fun acc => ⟨_, rfl, by simp [evSs, evS, v_var, v_int, v_bl, v_non, v_str, v_glb, v_tup, v_lst, v_bop, v_neg, v_cmp, v_chn, v_isN, v_notN, v_land, v_lor, v_lnot, v_ite, v_call, v_bi, v_mth, v_idx, v_slc, v_rev, v_isi, v_lrg1, v_lrg2, evEs, evIfs, evIt, evPar, bind_ok, asB, dOf, dsOf, pureD, ofD, ofB, isNon, exitF, exitV, startE, List.length_cons, List.length_nil, List.map_cons, List.map_nil, List.cons_append, List.nil_append, List.append_nil, List.replicate, List.getElem?_cons_zero, List.getElem?_cons_succ, List.take_length, Option.map_some, Option.map_none, if_true, if_false, Bool.false_eq_true, Bool.not_true, Bool.not_false, List.any_cons, List.any_nil, Bool.or_false, isTy, List.set_cons_zero, List.set_cons_succ, setTg, wipeE, tgSlots, seqItems, biD, bopD, cmpD, List.zip_cons_cons, List.zip_nil_left, List.zip_nil_right, List.foldl_cons, List.foldl_nil, if_neg, Nat.reduceAdd, Nat.reduceSub, reduceIte, dOf_d, d1, d3]⟩) .nil))
  unfold seenD seenT
  simp only [f__law_seen, b__law_seen, startE, List.map_cons, List.map_nil, List.length_cons, List.length_nil, List.replicate, List.cons_append, List.nil_append, Nat.reduceAdd, Nat.reduceSub]
  simp only [evSs, evS, evPar, Bool.false_eq_true, if_false, q0, bind_ok, List.set_cons_zero, List.set_cons_succ, v_bi, evEs, q1, q2, q3, q4, dsOf, dOf_d, biD, intsOf, Option.map_some, ofD, maxI, minI, List.foldl_cons, List.foldl_nil, List.zip_cons_cons, List.zip_nil_left, v_bop, v_var, List.getElem?_cons_zero, List.getElem?_cons_succ, bopD, v_ite, v_land, v_cmp, v_int, gt_I, ofB, asB]
  by_cases c1 : min (P.x + P.w) 60 ≤ max P.x 0
  · have e1 : decide ((0 : Int) < min (P.x + P.w) 60 - max P.x 0) = false := decide_eq_false (by omega)
    simp only [e1, Bool.false_eq_true, if_false, bind_ok, asB, v_non, exitF, exitV, List.take_length, if_pos (Or.inl c1)]
  · have e1 : decide ((0 : Int) < min (P.x + P.w) 60 - max P.x 0) = true := decide_eq_true (by omega)
    by_cases c2 : min (P.y + P.h) 60 ≤ max P.y 0
    · have e2 : decide ((0 : Int) < min (P.y + P.h) 60 - max P.y 0) = false := decide_eq_false (by omega)
      simp only [e1, e2, Bool.false_eq_true, if_false, if_true, bind_ok, asB, v_non, exitF, exitV, List.take_length, if_pos (Or.inr c2)]
    · have e2 : decide ((0 : Int) < min (P.y + P.h) 60 - max P.y 0) = true := decide_eq_true (by omega)
      have c3 : ¬ (min (P.x + P.w) 60 ≤ max P.x 0 ∨ min (P.y + P.h) 60 ≤ max P.y 0) := by omega
      simp only [e1, e2, Bool.false_eq_true, if_false, if_true, bind_ok, asB, v_non, exitF, exitV, List.take_length, if_neg c3, v_tup, evEs, v_var, List.getElem?_cons_zero, List.getElem?_cons_succ, pureD, Option.map_some, ofD, Bx.d]
end
end k19
end Kp
end

section
set_option Elab.async false
set_option linter.all false
set_option maxRecDepth 100000
set_option maxHeartbeats 4000077
namespace Kp
namespace k19
open PySem
section
variable {ps : List Pn} {n : Nat} {m : Store} {k : Nat} {P : Pn}
theorem c_alive2 (hn : 3 ≤ n) (F : Flat ps) (hk : (g0 :: ps)[k]? = some P) : Cn n 50 [.d (pl ps), .d (.int (k : Int))] m = .ok (.d (.bool true)) m := by
  obtain ⟨n, rfl⟩ := up1 (by omega : 1 ≤ n)
  rw [call_def (fn := f__law_alive) rfl rfl]
  have h1 := c_ups (m := m) (by omega : 2 ≤ n) F hk
  have loop := for_ok (b := bodyF (Cn n) (Gc csts) (.one 2) [.set 3 (.idx (.call 44 [.var 0, .var 2]) (.int 4)), .ife (.lor (.cmp .inn (.str "asleep") (.var 3)) (.cmp .inn (.str "hidden") (.var 3))) [.ret (.bl false)] []]) (fun i env m' => m' = m ∧ ∃ a b, env = [some (.d (pl ps)), some (.d (.int (k : Int))), a, b])
    (upsOf k) 0 [some (.d (pl ps)), some (.d (.int (k : Int))), none, none] m ⟨rfl, none, none, rfl⟩ (fun i x env m' hx hI => ?_)
  · obtain ⟨env', m', e1, e2, a, b, rfl⟩ := loop
    subst e2
    have lo : evS (Cn n) (Gc csts) l__law_alive_0 [some (.d (pl ps)), some (.d (.int (k : Int))), none, none] m' = .ok (.next [some (.d (pl ps)), some (.d (.int (k : Int))), a, b]) m' := by
      simp only [l__law_alive_0, s_for, evIt, v_call, evEs, v_var, List.getElem?_cons_zero, List.getElem?_cons_succ, bind_ok, h1, seqItems]
      exact e1
    simp [f__law_alive, b__law_alive, startE, evSs, lo, evS, v_bl, exitF, exitV]
  · obtain ⟨rfl, a, b, rfl⟩ := hI
    obtain ⟨j, Q, rfl, hj⟩ := ups_at F hk (List.mem_of_getElem? hx)
    have b1 := c_by (m := m') (by omega : 1 ≤ n) F hj
    obtain ⟨a1, a2, a3, a4⟩ := no_mark (in_L F (pn_at F hj)).1
    have i4 : idxD Q.d (.int 4) = some (mkD Q) := (pd_ix Q).2.2.2.2
    refine ⟨_, m', ?_, rfl, some (.d (.int (j : Int))), some (.d (mkD Q)), rfl⟩
    rw [body_ok rfl]
    simp [evSs, evS, v_var, v_int, v_bl, v_non, v_str, v_glb, v_tup, v_lst, v_bop, v_neg, v_cmp, v_chn, v_isN, v_notN, v_land, v_lor, v_lnot, v_ite, v_call, v_bi, v_mth, v_idx, v_slc, v_rev, v_isi, v_lrg1, v_lrg2, evEs, evIfs, evIt, evPar, bind_ok, asB, dOf, dsOf, pureD, ofD, ofB, isNon, exitF, exitV, startE, List.length_cons, List.length_nil, List.map_cons, List.map_nil, List.cons_append, List.nil_append, List.append_nil, List.replicate, List.getElem?_cons_zero, List.getElem?_cons_succ, List.take_length, Option.map_some, Option.map_none, if_true, if_false, Bool.false_eq_true, Bool.not_true, Bool.not_false, List.any_cons, List.any_nil, Bool.or_false, isTy, List.set_cons_zero, List.set_cons_succ, setTg, wipeE, tgSlots, seqItems, biD, bopD, List.zip_cons_cons, List.zip_nil_left, List.zip_nil_right, List.foldl_cons, List.foldl_nil, if_neg, Nat.reduceAdd, Nat.reduceSub, reduceIte, b1, dOf_d, i4, a1, a2]
theorem c_top (hn : 4 ≤ n) (F : Flat ps) : Cn n 51 [.d (pl ps)] m = .ok (.d (.int 0)) m := by
  obtain ⟨n, rfl⟩ := up1 (by omega : 1 ≤ n)
  rw [call_def (fn := f__law_top) rfl rfl]
  have loop := for_ok (b := bodyF (Cn n) (Gc csts) (.one 2) [.ife (.land (.cmp .inn (.str "sheet") (.idx (.var 2) (.int 4))) (.call 50 [.var 0, .idx (.var 2) (.int 0)])) [.set 1 (.bi .max [.var 1, .idx (.var 2) (.int 0)])] []]) (fun i env m' => m' = m ∧ ∃ a, env = [some (.d (pl ps)), some (.d (.int 0)), a])
    ((g0 :: ps).map Pn.d) 0 [some (.d (pl ps)), some (.d (.int 0)), none] m ⟨rfl, none, rfl⟩ (fun i x env m' hx hI => ?_)
  · obtain ⟨env', m', e1, e2, a, rfl⟩ := loop
    subst e2
    have lo : evS (Cn n) (Gc csts) l__law_top_0 [some (.d (pl ps)), some (.d (.int 0)), none] m' = .ok (.next [some (.d (pl ps)), some (.d (.int 0)), a]) m' := by
      have hp : seqItems (pl ps) = some ((g0 :: ps).map Pn.d) := rfl
      simp only [l__law_top_0, s_for, evIt, v_var, List.getElem?_cons_zero, bind_ok, hp]
      exact e1
    simp [f__law_top, b__law_top, startE, evSs, evS, v_int, lo, v_var, exitF, exitV]
  · obtain ⟨rfl, a, rfl⟩ := hI
    obtain ⟨p, hp, rfl⟩ := PL_mem (List.mem_of_getElem? hx)
    obtain ⟨a1, a2, a3, a4⟩ := no_mark (in_L F hp).1
    have i4 : idxD p.d (.int 4) = some (mkD p) := (pd_ix p).2.2.2.2
    refine ⟨_, m', ?_, rfl, some (.d p.d), rfl⟩
    rw [body_ok rfl]
    simp [evSs, evS, v_var, v_int, v_bl, v_non, v_str, v_glb, v_tup, v_lst, v_bop, v_neg, v_cmp, v_chn, v_isN, v_notN, v_land, v_lor, v_lnot, v_ite, v_call, v_bi, v_mth, v_idx, v_slc, v_rev, v_isi, v_lrg1, v_lrg2, evEs, evIfs, evIt, evPar, bind_ok, asB, dOf, dsOf, pureD, ofD, ofB, isNon, exitF, exitV, startE, List.length_cons, List.length_nil, List.map_cons, List.map_nil, List.cons_append, List.nil_append, List.append_nil, List.replicate, List.getElem?_cons_zero, List.getElem?_cons_succ, List.take_length, Option.map_some, Option.map_none, if_true, if_false, Bool.false_eq_true, Bool.not_true, Bool.not_false, List.any_cons, List.any_nil, Bool.or_false, isTy, List.set_cons_zero, List.set_cons_succ, setTg, wipeE, tgSlots, seqItems, biD, bopD, List.zip_cons_cons, List.zip_nil_left, List.zip_nil_right, List.foldl_cons, List.foldl_nil, if_neg, Nat.reduceAdd, Nat.reduceSub, reduceIte, dOf_d, i4, a3]
theorem c_open (hn : 5 ≤ n) (F : Flat ps) (hk : (g0 :: ps)[k]? = some P) : Cn n 52 [.d (pl ps), .d (.int (k : Int))] m = .ok (.d (.bool true)) m := by
  obtain ⟨n, rfl⟩ := up1 (by omega : 1 ≤ n)
  rw [call_def (fn := f__law_open) rfl rfl]
  have h1 := c_ups (m := m) (by omega : 2 ≤ n) F hk
  have h2 := c_alive2 (m := m) (by omega : 3 ≤ n) F hk
  have h3 := c_top (m := m) (by omega : 4 ≤ n) F
  have h4 : cmpD .inn (.int 0) (.list (upsOf k)) = some true := by
    unfold upsOf
    split <;> simp [cmpD, inD, scalD, PyData.eqv]
  simp [f__law_open, b__law_open, evSs, evS, v_var, v_int, v_bl, v_non, v_str, v_glb, v_tup, v_lst, v_bop, v_neg, v_cmp, v_chn, v_isN, v_notN, v_land, v_lor, v_lnot, v_ite, v_call, v_bi, v_mth, v_idx, v_slc, v_rev, v_isi, v_lrg1, v_lrg2, evEs, evIfs, evIt, evPar, bind_ok, asB, dOf, dsOf, pureD, ofD, ofB, isNon, exitF, exitV, startE, List.length_cons, List.length_nil, List.map_cons, List.map_nil, List.cons_append, List.nil_append, List.append_nil, List.replicate, List.getElem?_cons_zero, List.getElem?_cons_succ, List.take_length, Option.map_some, Option.map_none, if_true, if_false, Bool.false_eq_true, Bool.not_true, Bool.not_false, List.any_cons, List.any_nil, Bool.or_false, isTy, List.set_cons_zero, List.set_cons_succ, setTg, wipeE, tgSlots, seqItems, biD, bopD, List.zip_cons_cons, List.zip_nil_left, List.zip_nil_right, List.foldl_cons, List.foldl_nil, if_neg, Nat.reduceAdd, Nat.reduceSub, reduceIte, h1, h2, h3, dOf_d, h4]
theorem c_stops (hn : 6 ≤ n) (F : Flat ps) : Cn n 53 [.d (pl ps), .d (.int 0)] m = .ok (.d (.list (nms ps))) m := by
  obtain ⟨n, rfl⟩ := up1 (by omega : 1 ≤ n)
  rw [call_def (fn := f__law_stops) rfl rfl]
  have l1 := F.len
  have hw := c_walk0 (m := m) (by omega : 3 ≤ n) F
  have q0 : evE (Cn n) (Gc csts) q__law_stops_0 [some (.d (pl ps)), some (.d (.int 0)), none] m = .ok (.d (.list (nms ps))) m := by
    have := comp_if (Φ := Cn n) (G := Gc csts) (env := [some (.d (pl ps)), some (.d (.int 0)), none]) (m := m) (elt := .var 2) (c := .land (.call 52 [.var 0, .var 2]) (.cmp .inn (.str "stop") (.idx (.call 44 [.var 0, .var 2]) (.int 4)))) (tg := .one 2) (it := .seq (.call 47 [.var 0, .var 1])) (items := .int 0 :: nms ps) (fun d => !isZ d) id (by simp [evSs, evS, v_var, v_int, v_bl, v_non, v_str, v_glb, v_tup, v_lst, v_bop, v_neg, v_cmp, v_chn, v_isN, v_notN, v_land, v_lor, v_lnot, v_ite, v_call, v_bi, v_mth, v_idx, v_slc, v_rev, v_isi, v_lrg1, v_lrg2, evEs, evIfs, evIt, evPar, bind_ok, asB, dOf, dsOf, pureD, ofD, ofB, isNon, exitF, exitV, startE, List.length_cons, List.length_nil, List.map_cons, List.map_nil, List.cons_append, List.nil_append, List.append_nil, List.replicate, List.getElem?_cons_zero, List.getElem?_cons_succ, List.take_length, Option.map_some, Option.map_none, if_true, if_false, Bool.false_eq_true, Bool.not_true, Bool.not_false, List.any_cons, List.any_nil, Bool.or_false, isTy, List.set_cons_zero, List.set_cons_succ, setTg, wipeE, tgSlots, seqItems, biD, bopD, cmpD, List.zip_cons_cons, List.zip_nil_left, List.zip_nil_right, List.foldl_cons, List.foldl_nil, if_neg, Nat.reduceAdd, Nat.reduceSub, reduceIte, hw]) (szl (by simp [nms]; omega)) fun x hx acc => by
      rcases List.mem_cons.mp hx with rfl | hx
      · have h1 : Cn n 44 [.d (pl ps), .d (.int 0)] (m ++ [.lst acc]) = .ok (.d g0.d) (m ++ [.lst acc]) := c_by (k := 0) (by omega : 1 ≤ n) F rfl
        have h2 : Cn n 52 [.d (pl ps), .d (.int 0)] (m ++ [.lst acc]) = .ok (.d (.bool true)) (m ++ [.lst acc]) := c_open (k := 0) (by omega : 5 ≤ n) F rfl
        have i4 : idxD g0.d (.int 4) = some (mkD g0) := (pd_ix g0).2.2.2.2
        exact ⟨_, rfl, by simp [evSs, evS, v_var, v_int, v_bl, v_non, v_str, v_glb, v_tup, v_lst, v_bop, v_neg, v_cmp, v_chn, v_isN, v_notN, v_land, v_lor, v_lnot, v_ite, v_call, v_bi, v_mth, v_idx, v_slc, v_rev, v_isi, v_lrg1, v_lrg2, evEs, evIfs, evIt, evPar, bind_ok, asB, dOf, dsOf, pureD, ofD, ofB, isNon, exitF, exitV, startE, List.length_cons, List.length_nil, List.map_cons, List.map_nil, List.cons_append, List.nil_append, List.append_nil, List.replicate, List.getElem?_cons_zero, List.getElem?_cons_succ, List.take_length, Option.map_some, Option.map_none, if_true, if_false, Bool.false_eq_true, Bool.not_true, Bool.not_false, List.any_cons, List.any_nil, Bool.or_false, isTy, List.set_cons_zero, List.set_cons_succ, setTg, wipeE, tgSlots, seqItems, biD, bopD, List.zip_cons_cons, List.zip_nil_left, List.zip_nil_right, List.foldl_cons, List.foldl_nil, if_neg, Nat.reduceAdd, Nat.reduceSub, reduceIte, h1, h2, dOf_d, i4, no_stop0, isZ], fun h => by simp [isZ] at h⟩
      · obtain ⟨j, p, rfl, hj, hp⟩ := nms_mem F hx
        have h1 := c_by (m := m ++ [.lst acc]) (by omega : 1 ≤ n) F hj
        have h2 := c_open (m := m ++ [.lst acc]) (by omega : 5 ≤ n) F hj
        have i4 : idxD p.d (.int 4) = some (mkD p) := (pd_ix p).2.2.2.2
        have st := stop_mark (F.ok p hp).2.2
        have nz : isZ (.int ((j + 1 : Nat) : Int)) = false := by simp [isZ]; omega
        generalize ((j + 1 : Nat) : Int) = J at *
        exact ⟨_, rfl, by simp [evSs, evS, v_var, v_int, v_bl, v_non, v_str, v_glb, v_tup, v_lst, v_bop, v_neg, v_cmp, v_chn, v_isN, v_notN, v_land, v_lor, v_lnot, v_ite, v_call, v_bi, v_mth, v_idx, v_slc, v_rev, v_isi, v_lrg1, v_lrg2, evEs, evIfs, evIt, evPar, bind_ok, asB, dOf, dsOf, pureD, ofD, ofB, isNon, exitF, exitV, startE, List.length_cons, List.length_nil, List.map_cons, List.map_nil, List.cons_append, List.nil_append, List.append_nil, List.replicate, List.getElem?_cons_zero, List.getElem?_cons_succ, List.take_length, Option.map_some, Option.map_none, if_true, if_false, Bool.false_eq_true, Bool.not_true, Bool.not_false, List.any_cons, List.any_nil, Bool.or_false, isTy, List.set_cons_zero, List.set_cons_succ, setTg, wipeE, tgSlots, seqItems, biD, bopD, List.zip_cons_cons, List.zip_nil_left, List.zip_nil_right, List.foldl_cons, List.foldl_nil, if_neg, Nat.reduceAdd, Nat.reduceSub, reduceIte, h1, h2, dOf_d, i4, st, nz], fun h => by simp [evSs, evS, v_var, v_int, v_bl, v_non, v_str, v_glb, v_tup, v_lst, v_bop, v_neg, v_cmp, v_chn, v_isN, v_notN, v_land, v_lor, v_lnot, v_ite, v_call, v_bi, v_mth, v_idx, v_slc, v_rev, v_isi, v_lrg1, v_lrg2, evEs, evIfs, evIt, evPar, bind_ok, asB, dOf, dsOf, pureD, ofD, ofB, isNon, exitF, exitV, startE, List.length_cons, List.length_nil, List.map_cons, List.map_nil, List.cons_append, List.nil_append, List.append_nil, List.replicate, List.getElem?_cons_zero, List.getElem?_cons_succ, List.take_length, Option.map_some, Option.map_none, if_true, if_false, Bool.false_eq_true, Bool.not_true, Bool.not_false, List.any_cons, List.any_nil, Bool.or_false, isTy, List.set_cons_zero, List.set_cons_succ, setTg, wipeE, tgSlots, seqItems, biD, bopD, cmpD, List.zip_cons_cons, List.zip_nil_left, List.zip_nil_right, List.foldl_cons, List.foldl_nil, if_neg, Nat.reduceAdd, Nat.reduceSub, reduceIte]⟩
    have e : (PyData.int 0 :: nms ps).filter (fun d => !isZ d) = nms ps := by
      rw [List.filter_cons]
      simp only [isZ, decide_true, Bool.not_true, Bool.false_eq_true, if_false]
      rw [List.filter_eq_self]
      intro x hx
      obtain ⟨j, p, rfl, _⟩ := nms_mem F hx
      simp; omega
    rw [e, List.map_id] at this
    exact this
  simp [f__law_stops, b__law_stops, evSs, evS, v_var, v_int, v_bl, v_non, v_str, v_glb, v_tup, v_lst, v_bop, v_neg, v_cmp, v_chn, v_isN, v_notN, v_land, v_lor, v_lnot, v_ite, v_call, v_bi, v_mth, v_idx, v_slc, v_rev, v_isi, v_lrg1, v_lrg2, evEs, evIfs, evIt, evPar, bind_ok, asB, dOf, dsOf, pureD, ofD, ofB, isNon, exitF, exitV, startE, List.length_cons, List.length_nil, List.map_cons, List.map_nil, List.cons_append, List.nil_append, List.append_nil, List.replicate, List.getElem?_cons_zero, List.getElem?_cons_succ, List.take_length, Option.map_some, Option.map_none, if_true, if_false, Bool.false_eq_true, Bool.not_true, Bool.not_false, List.any_cons, List.any_nil, Bool.or_false, isTy, List.set_cons_zero, List.set_cons_succ, setTg, wipeE, tgSlots, seqItems, biD, bopD, cmpD, List.zip_cons_cons, List.zip_nil_left, List.zip_nil_right, List.foldl_cons, List.foldl_nil, if_neg, Nat.reduceAdd, Nat.reduceSub, reduceIte, q0]
theorem c_field (hn : 5 ≤ n) (F : Flat ps) (hk : (g0 :: ps)[k]? = some P) : Cn n 54 [.d (pl ps), .d (.int (k : Int))] m = .ok (.d (.int 0)) m := by
  obtain ⟨n, rfl⟩ := up1 (by omega : 1 ≤ n)
  rw [call_def (fn := f__law_field) rfl rfl]
  have h1 := c_ups (m := m) (by omega : 2 ≤ n) F hk
  have ts := c_top (m := m) (by omega : 4 ≤ n) F
  have q0 : evE (Cn n) (Gc csts) q__law_field_0 [some (.d (pl ps)), some (.d (.int (k : Int))), none, none] m = .ok (.d (.list [])) m := by
    have := comp_if (Φ := Cn n) (G := Gc csts) (env := [some (.d (pl ps)), some (.d (.int (k : Int))), none, none]) (m := m) (elt := .var 3) (c := .cmp .inn (.str "hold") (.idx (.call 44 [.var 0, .var 3]) (.int 4))) (tg := .one 3) (it := .seq (.call 45 [.var 0, .var 1])) (items := upsOf k) (fun _ => false) id (by simp [evSs, evS, v_var, v_int, v_bl, v_non, v_str, v_glb, v_tup, v_lst, v_bop, v_neg, v_cmp, v_chn, v_isN, v_notN, v_land, v_lor, v_lnot, v_ite, v_call, v_bi, v_mth, v_idx, v_slc, v_rev, v_isi, v_lrg1, v_lrg2, evEs, evIfs, evIt, evPar, bind_ok, asB, dOf, dsOf, pureD, ofD, ofB, isNon, exitF, exitV, startE, List.length_cons, List.length_nil, List.map_cons, List.map_nil, List.cons_append, List.nil_append, List.append_nil, List.replicate, List.getElem?_cons_zero, List.getElem?_cons_succ, List.take_length, Option.map_some, Option.map_none, if_true, if_false, Bool.false_eq_true, Bool.not_true, Bool.not_false, List.any_cons, List.any_nil, Bool.or_false, isTy, List.set_cons_zero, List.set_cons_succ, setTg, wipeE, tgSlots, seqItems, biD, bopD, cmpD, List.zip_cons_cons, List.zip_nil_left, List.zip_nil_right, List.foldl_cons, List.foldl_nil, if_neg, Nat.reduceAdd, Nat.reduceSub, reduceIte, h1]) (szl (Nat.le_trans ups_len (by omega))) fun x hx acc => by
      obtain ⟨j, Q, rfl, hj⟩ := ups_at F hk hx
      have b1 := c_by (m := m ++ [.lst acc]) (by omega : 1 ≤ n) F hj
      have a4 := (no_mark (in_L F (pn_at F hj)).1).2.2.2
      have i4 : idxD Q.d (.int 4) = some (mkD Q) := (pd_ix Q).2.2.2.2
      exact ⟨_, rfl, by simp [evSs, evS, v_var, v_int, v_bl, v_non, v_str, v_glb, v_tup, v_lst, v_bop, v_neg, v_cmp, v_chn, v_isN, v_notN, v_land, v_lor, v_lnot, v_ite, v_call, v_bi, v_mth, v_idx, v_slc, v_rev, v_isi, v_lrg1, v_lrg2, evEs, evIfs, evIt, evPar, bind_ok, asB, dOf, dsOf, pureD, ofD, ofB, isNon, exitF, exitV, startE, List.length_cons, List.length_nil, List.map_cons, List.map_nil, List.cons_append, List.nil_append, List.append_nil, List.replicate, List.getElem?_cons_zero, List.getElem?_cons_succ, List.take_length, Option.map_some, Option.map_none, if_true, if_false, Bool.false_eq_true, Bool.not_true, Bool.not_false, List.any_cons, List.any_nil, Bool.or_false, isTy, List.set_cons_zero, List.set_cons_succ, setTg, wipeE, tgSlots, seqItems, biD, bopD, List.zip_cons_cons, List.zip_nil_left, List.zip_nil_right, List.foldl_cons, List.foldl_nil, if_neg, Nat.reduceAdd, Nat.reduceSub, reduceIte, b1, dOf_d, i4, a4], fun h => by cases h⟩
    rw [filt_no] at this
    exact this
  have s1 : 1 ≤ sizeLine := szl (by omega)
  simp [f__law_field, b__law_field, evSs, evS, v_var, v_int, v_bl, v_non, v_str, v_glb, v_tup, v_lst, v_bop, v_neg, v_cmp, v_chn, v_isN, v_notN, v_land, v_lor, v_lnot, v_ite, v_call, v_bi, v_mth, v_idx, v_slc, v_rev, v_isi, v_lrg1, v_lrg2, evEs, evIfs, evIt, evPar, bind_ok, asB, dOf, dsOf, pureD, ofD, ofB, isNon, exitF, exitV, startE, List.length_cons, List.length_nil, List.map_cons, List.map_nil, List.cons_append, List.nil_append, List.append_nil, List.replicate, List.getElem?_cons_zero, List.getElem?_cons_succ, List.take_length, Option.map_some, Option.map_none, if_true, if_false, Bool.false_eq_true, Bool.not_true, Bool.not_false, List.any_cons, List.any_nil, Bool.or_false, isTy, List.set_cons_zero, List.set_cons_succ, setTg, wipeE, tgSlots, seqItems, biD, bopD, cmpD, List.zip_cons_cons, List.zip_nil_left, List.zip_nil_right, List.foldl_cons, List.foldl_nil, if_neg, Nat.reduceAdd, Nat.reduceSub, reduceIte, q0, ts, s1, dOf_d, idxD, L2.atI, L2.ixN]
theorem bd_ix (b : Bx) : idxD b.d (.int 0) = some (.int b.l) ∧ idxD b.d (.int 1) = some (.int b.t) ∧ idxD b.d (.int 2) = some (.int b.w) ∧ idxD b.d (.int 3) = some (.int b.h) := by
  refine ⟨?_, ?_, ?_, ?_⟩ <;> simp [Bx.d, idxD, L2.atI, L2.ixN]
theorem c_gap0 (hn : 1 ≤ n) (o r : Bx) : Cn n 56 [.d o.d, .d r.d, .d (.int 0)] m = .ok (.d (.int (max (r.l - (o.l + o.w)) (o.l - (r.l + r.w))))) m := by
  obtain ⟨n, rfl⟩ := up1 hn
  rw [call_def (fn := f__law_gap) rfl rfl]
  obtain ⟨a0, a1, a2, a3⟩ := bd_ix o
  obtain ⟨b0, b1, b2, b3⟩ := bd_ix r
  simp [f__law_gap, b__law_gap, evSs, evS, v_var, v_int, v_bl, v_non, v_str, v_glb, v_tup, v_lst, v_bop, v_neg, v_cmp, v_chn, v_isN, v_notN, v_land, v_lor, v_lnot, v_ite, v_call, v_bi, v_mth, v_idx, v_slc, v_rev, v_isi, v_lrg1, v_lrg2, evEs, evIfs, evIt, evPar, bind_ok, asB, dOf, dsOf, pureD, ofD, ofB, isNon, exitF, exitV, startE, List.length_cons, List.length_nil, List.map_cons, List.map_nil, List.cons_append, List.nil_append, List.append_nil, List.replicate, List.getElem?_cons_zero, List.getElem?_cons_succ, List.take_length, Option.map_some, Option.map_none, if_true, if_false, Bool.false_eq_true, Bool.not_true, Bool.not_false, List.any_cons, List.any_nil, Bool.or_false, isTy, List.set_cons_zero, List.set_cons_succ, setTg, wipeE, tgSlots, seqItems, biD, bopD, cmpD, List.zip_cons_cons, List.zip_nil_left, List.zip_nil_right, List.foldl_cons, List.foldl_nil, if_neg, Nat.reduceAdd, Nat.reduceSub, reduceIte, dOf_d, a0, a1, a2, a3, b0, b1, b2, b3]
  omega
theorem c_gap1 (hn : 1 ≤ n) (o r : Bx) : Cn n 56 [.d o.d, .d r.d, .d (.int 1)] m = .ok (.d (.int (max (r.t - (o.t + o.h)) (o.t - (r.t + r.h))))) m := by
  obtain ⟨n, rfl⟩ := up1 hn
  rw [call_def (fn := f__law_gap) rfl rfl]
  obtain ⟨a0, a1, a2, a3⟩ := bd_ix o
  obtain ⟨b0, b1, b2, b3⟩ := bd_ix r
  simp [f__law_gap, b__law_gap, evSs, evS, v_var, v_int, v_bl, v_non, v_str, v_glb, v_tup, v_lst, v_bop, v_neg, v_cmp, v_chn, v_isN, v_notN, v_land, v_lor, v_lnot, v_ite, v_call, v_bi, v_mth, v_idx, v_slc, v_rev, v_isi, v_lrg1, v_lrg2, evEs, evIfs, evIt, evPar, bind_ok, asB, dOf, dsOf, pureD, ofD, ofB, isNon, exitF, exitV, startE, List.length_cons, List.length_nil, List.map_cons, List.map_nil, List.cons_append, List.nil_append, List.append_nil, List.replicate, List.getElem?_cons_zero, List.getElem?_cons_succ, List.take_length, Option.map_some, Option.map_none, if_true, if_false, Bool.false_eq_true, Bool.not_true, Bool.not_false, List.any_cons, List.any_nil, Bool.or_false, isTy, List.set_cons_zero, List.set_cons_succ, setTg, wipeE, tgSlots, seqItems, biD, bopD, cmpD, List.zip_cons_cons, List.zip_nil_left, List.zip_nil_right, List.foldl_cons, List.foldl_nil, if_neg, Nat.reduceAdd, Nat.reduceSub, reduceIte, dOf_d, a0, a1, a2, a3, b0, b1, b2, b3]
  omega
def ax : Way → Int
  | .above => 1 | .below => 1 | .left => 0 | .right => 0
theorem w_ax (w : Way) : cmpD .inn (.str w.s) (.tuple [.str "above", .str "below"]) = some (!w.al) := by cases w <;> kernel_rfl
theorem ge_I (a b : Int) : cmpD .ge (.int a) (.int b) = some (decide (b ≤ a)) := rfl
def rkL (w : Way) (o r : Bx) (I : Int) : List D := match rk w o r with
  | some (a, f, s) => [E4.d ⟨a, f, s, I⟩]
  | none => []
theorem far_turn (hn : 1 ≤ n) (w : Way) (o r : Bx) (I K : Int) (l : List D) (hl : l.length ≤ 100) (a b : Option Val) : ∃ a' b', evSs (Cn n) (Gc csts) [.set 8 (.bop .sub (.bop .sub (.idx (.var 7) (.var 3)) (.idx (.var 5) (.var 3))) (.idx (.var 5) (.bop .add (.int 2) (.var 3)))), .ife (.cmp .inn (.var 2) (.tup [.str "left", .str "above"])) [.set 8 (.bop .sub (.bop .sub (.idx (.var 5) (.var 3)) (.idx (.var 7) (.var 3))) (.idx (.var 7) (.bop .add (.int 2) (.var 3))))] [], .ife (.cmp .ge (.var 8) (.int 0)) [.set 9 (.bi .max [.int 0, .bop .add (.call 56 [.var 5, .var 7, .bop .sub (.int 1) (.var 3)]) (.int 1)]), .exp (.mth .append (.var 6) [.tup [.var 9, .var 8, .idx (.var 7) (.bop .sub (.int 1) (.var 3)), .var 4]])] []]
    [some (.d (pl ps)), some (.d (.int K)), some (.d (.str w.s)), some (.d (.int (ax w))), some (.d (.int I)), some (.d o.d), some (.loc m.length), some (.d r.d), a, b] (m ++ [.lst l]) =
      .ok (.next [some (.d (pl ps)), some (.d (.int K)), some (.d (.str w.s)), some (.d (.int (ax w))), some (.d (.int I)), some (.d o.d), some (.loc m.length), some (.d r.d), a', b']) (m ++ [.lst (l ++ rkL w o r I)]) := by
  obtain ⟨a0, a1, a2, a3⟩ := bd_ix o
  obtain ⟨b0, b1, b2, b3⟩ := bd_ix r
  have g0' := c_gap0 (m := m ++ [.lst l]) hn o r
  have g1' := c_gap1 (m := m ++ [.lst l]) hn o r
  have hz : l.length < sizeLine := by rw [sizeLine_eq]; omega
  have d1 : dOf (.loc m.length) (m ++ [.lst l]) = some (.list l) := by simp only [dOf, get_end]
  have r1 : recvOk .append (.loc m.length) (m ++ [.lst l]) = true := by simp only [recvOk, d1]
  have e2 := w_bk w
  unfold rkL rk
  cases w <;> simp only [Way.bk] at e2 <;> simp only [ax, Way.al, if_true, Bool.false_eq_true, if_false]
  · by_cases hf : o.t - (r.t + r.h) < 0
    · have gg : cmpD .ge (.int (o.t - r.t - r.h)) (.int 0) = some false := by rw [ge_I, decide_eq_false (by omega)]
      exact ⟨_, _, by simp [evSs, evS, v_var, v_int, v_bl, v_non, v_str, v_glb, v_tup, v_lst, v_bop, v_neg, v_cmp, v_chn, v_isN, v_notN, v_land, v_lor, v_lnot, v_ite, v_call, v_bi, v_mth, v_idx, v_slc, v_rev, v_isi, v_lrg1, v_lrg2, evEs, evIfs, evIt, evPar, bind_ok, asB, dOf, dsOf, pureD, ofD, ofB, isNon, exitF, exitV, startE, List.length_cons, List.length_nil, List.map_cons, List.map_nil, List.cons_append, List.nil_append, List.append_nil, List.replicate, List.getElem?_cons_zero, List.getElem?_cons_succ, List.take_length, Option.map_some, Option.map_none, if_true, if_false, Bool.false_eq_true, Bool.not_true, Bool.not_false, List.any_cons, List.any_nil, Bool.or_false, isTy, List.set_cons_zero, List.set_cons_succ, setTg, wipeE, tgSlots, seqItems, biD, bopD, List.zip_cons_cons, List.zip_nil_left, List.zip_nil_right, List.foldl_cons, List.foldl_nil, if_neg, Nat.reduceAdd, Nat.reduceSub, reduceIte, dOf_d, a0, a1, a2, a3, b0, b1, b2, b3, e2, gg, hf]; first | exact ⟨rfl, rfl⟩ | rfl⟩
    · have gg : cmpD .ge (.int (o.t - r.t - r.h)) (.int 0) = some true := by rw [ge_I, decide_eq_true (by omega)]
      have hs : o.t - r.t - r.h = o.t - (r.t + r.h) := by omega
      have gg2 := gg
      rw [hs] at gg2
      exact ⟨_, _, by simp [evSs, evS, v_var, v_int, v_bl, v_non, v_str, v_glb, v_tup, v_lst, v_bop, v_neg, v_cmp, v_chn, v_isN, v_notN, v_land, v_lor, v_lnot, v_ite, v_call, v_bi, v_mth, v_idx, v_slc, v_rev, v_isi, v_lrg1, v_lrg2, evEs, evIfs, evIt, evPar, bind_ok, asB, dOf, dsOf, pureD, ofD, ofB, isNon, exitF, exitV, startE, List.length_cons, List.length_nil, List.map_cons, List.map_nil, List.cons_append, List.nil_append, List.append_nil, List.replicate, List.getElem?_cons_zero, List.getElem?_cons_succ, List.take_length, Option.map_some, Option.map_none, if_true, if_false, Bool.false_eq_true, Bool.not_true, Bool.not_false, List.any_cons, List.any_nil, Bool.or_false, isTy, List.set_cons_zero, List.set_cons_succ, setTg, wipeE, tgSlots, seqItems, biD, bopD, List.zip_cons_cons, List.zip_nil_left, List.zip_nil_right, List.foldl_cons, List.foldl_nil, if_neg, Nat.reduceAdd, Nat.reduceSub, reduceIte, dOf_d, a0, a1, a2, a3, b0, b1, b2, b3, e2, gg, gg2, hf, g0', r1, mthV, get_end, hz, set_end, E4.d, hs]; first | exact ⟨rfl, rfl⟩ | rfl⟩
  · by_cases hf : r.t - (o.t + o.h) < 0
    · have gg : cmpD .ge (.int (r.t - o.t - o.h)) (.int 0) = some false := by rw [ge_I, decide_eq_false (by omega)]
      exact ⟨_, _, by simp [evSs, evS, v_var, v_int, v_bl, v_non, v_str, v_glb, v_tup, v_lst, v_bop, v_neg, v_cmp, v_chn, v_isN, v_notN, v_land, v_lor, v_lnot, v_ite, v_call, v_bi, v_mth, v_idx, v_slc, v_rev, v_isi, v_lrg1, v_lrg2, evEs, evIfs, evIt, evPar, bind_ok, asB, dOf, dsOf, pureD, ofD, ofB, isNon, exitF, exitV, startE, List.length_cons, List.length_nil, List.map_cons, List.map_nil, List.cons_append, List.nil_append, List.append_nil, List.replicate, List.getElem?_cons_zero, List.getElem?_cons_succ, List.take_length, Option.map_some, Option.map_none, if_true, if_false, Bool.false_eq_true, Bool.not_true, Bool.not_false, List.any_cons, List.any_nil, Bool.or_false, isTy, List.set_cons_zero, List.set_cons_succ, setTg, wipeE, tgSlots, seqItems, biD, bopD, List.zip_cons_cons, List.zip_nil_left, List.zip_nil_right, List.foldl_cons, List.foldl_nil, if_neg, Nat.reduceAdd, Nat.reduceSub, reduceIte, dOf_d, a0, a1, a2, a3, b0, b1, b2, b3, e2, gg, hf]; first | exact ⟨rfl, rfl⟩ | rfl⟩
    · have gg : cmpD .ge (.int (r.t - o.t - o.h)) (.int 0) = some true := by rw [ge_I, decide_eq_true (by omega)]
      have hs : r.t - o.t - o.h = r.t - (o.t + o.h) := by omega
      have gg2 := gg
      rw [hs] at gg2
      exact ⟨_, _, by simp [evSs, evS, v_var, v_int, v_bl, v_non, v_str, v_glb, v_tup, v_lst, v_bop, v_neg, v_cmp, v_chn, v_isN, v_notN, v_land, v_lor, v_lnot, v_ite, v_call, v_bi, v_mth, v_idx, v_slc, v_rev, v_isi, v_lrg1, v_lrg2, evEs, evIfs, evIt, evPar, bind_ok, asB, dOf, dsOf, pureD, ofD, ofB, isNon, exitF, exitV, startE, List.length_cons, List.length_nil, List.map_cons, List.map_nil, List.cons_append, List.nil_append, List.append_nil, List.replicate, List.getElem?_cons_zero, List.getElem?_cons_succ, List.take_length, Option.map_some, Option.map_none, if_true, if_false, Bool.false_eq_true, Bool.not_true, Bool.not_false, List.any_cons, List.any_nil, Bool.or_false, isTy, List.set_cons_zero, List.set_cons_succ, setTg, wipeE, tgSlots, seqItems, biD, bopD, List.zip_cons_cons, List.zip_nil_left, List.zip_nil_right, List.foldl_cons, List.foldl_nil, if_neg, Nat.reduceAdd, Nat.reduceSub, reduceIte, dOf_d, a0, a1, a2, a3, b0, b1, b2, b3, e2, gg, gg2, hf, g0', r1, mthV, get_end, hz, set_end, E4.d, hs]; first | exact ⟨rfl, rfl⟩ | rfl⟩
  · by_cases hf : o.l - (r.l + r.w) < 0
    · have gg : cmpD .ge (.int (o.l - r.l - r.w)) (.int 0) = some false := by rw [ge_I, decide_eq_false (by omega)]
      exact ⟨_, _, by simp [evSs, evS, v_var, v_int, v_bl, v_non, v_str, v_glb, v_tup, v_lst, v_bop, v_neg, v_cmp, v_chn, v_isN, v_notN, v_land, v_lor, v_lnot, v_ite, v_call, v_bi, v_mth, v_idx, v_slc, v_rev, v_isi, v_lrg1, v_lrg2, evEs, evIfs, evIt, evPar, bind_ok, asB, dOf, dsOf, pureD, ofD, ofB, isNon, exitF, exitV, startE, List.length_cons, List.length_nil, List.map_cons, List.map_nil, List.cons_append, List.nil_append, List.append_nil, List.replicate, List.getElem?_cons_zero, List.getElem?_cons_succ, List.take_length, Option.map_some, Option.map_none, if_true, if_false, Bool.false_eq_true, Bool.not_true, Bool.not_false, List.any_cons, List.any_nil, Bool.or_false, isTy, List.set_cons_zero, List.set_cons_succ, setTg, wipeE, tgSlots, seqItems, biD, bopD, List.zip_cons_cons, List.zip_nil_left, List.zip_nil_right, List.foldl_cons, List.foldl_nil, if_neg, Nat.reduceAdd, Nat.reduceSub, reduceIte, dOf_d, a0, a1, a2, a3, b0, b1, b2, b3, e2, gg, hf]; first | exact ⟨rfl, rfl⟩ | rfl⟩
    · have gg : cmpD .ge (.int (o.l - r.l - r.w)) (.int 0) = some true := by rw [ge_I, decide_eq_true (by omega)]
      have hs : o.l - r.l - r.w = o.l - (r.l + r.w) := by omega
      have gg2 := gg
      rw [hs] at gg2
      exact ⟨_, _, by simp [evSs, evS, v_var, v_int, v_bl, v_non, v_str, v_glb, v_tup, v_lst, v_bop, v_neg, v_cmp, v_chn, v_isN, v_notN, v_land, v_lor, v_lnot, v_ite, v_call, v_bi, v_mth, v_idx, v_slc, v_rev, v_isi, v_lrg1, v_lrg2, evEs, evIfs, evIt, evPar, bind_ok, asB, dOf, dsOf, pureD, ofD, ofB, isNon, exitF, exitV, startE, List.length_cons, List.length_nil, List.map_cons, List.map_nil, List.cons_append, List.nil_append, List.append_nil, List.replicate, List.getElem?_cons_zero, List.getElem?_cons_succ, List.take_length, Option.map_some, Option.map_none, if_true, if_false, Bool.false_eq_true, Bool.not_true, Bool.not_false, List.any_cons, List.any_nil, Bool.or_false, isTy, List.set_cons_zero, List.set_cons_succ, setTg, wipeE, tgSlots, seqItems, biD, bopD, List.zip_cons_cons, List.zip_nil_left, List.zip_nil_right, List.foldl_cons, List.foldl_nil, if_neg, Nat.reduceAdd, Nat.reduceSub, reduceIte, dOf_d, a0, a1, a2, a3, b0, b1, b2, b3, e2, gg, gg2, hf, g1', r1, mthV, get_end, hz, set_end, E4.d, hs]; first | exact ⟨rfl, rfl⟩ | rfl⟩
  · by_cases hf : r.l - (o.l + o.w) < 0
    · have gg : cmpD .ge (.int (r.l - o.l - o.w)) (.int 0) = some false := by rw [ge_I, decide_eq_false (by omega)]
      exact ⟨_, _, by simp [evSs, evS, v_var, v_int, v_bl, v_non, v_str, v_glb, v_tup, v_lst, v_bop, v_neg, v_cmp, v_chn, v_isN, v_notN, v_land, v_lor, v_lnot, v_ite, v_call, v_bi, v_mth, v_idx, v_slc, v_rev, v_isi, v_lrg1, v_lrg2, evEs, evIfs, evIt, evPar, bind_ok, asB, dOf, dsOf, pureD, ofD, ofB, isNon, exitF, exitV, startE, List.length_cons, List.length_nil, List.map_cons, List.map_nil, List.cons_append, List.nil_append, List.append_nil, List.replicate, List.getElem?_cons_zero, List.getElem?_cons_succ, List.take_length, Option.map_some, Option.map_none, if_true, if_false, Bool.false_eq_true, Bool.not_true, Bool.not_false, List.any_cons, List.any_nil, Bool.or_false, isTy, List.set_cons_zero, List.set_cons_succ, setTg, wipeE, tgSlots, seqItems, biD, bopD, List.zip_cons_cons, List.zip_nil_left, List.zip_nil_right, List.foldl_cons, List.foldl_nil, if_neg, Nat.reduceAdd, Nat.reduceSub, reduceIte, dOf_d, a0, a1, a2, a3, b0, b1, b2, b3, e2, gg, hf]; first | exact ⟨rfl, rfl⟩ | rfl⟩
    · have gg : cmpD .ge (.int (r.l - o.l - o.w)) (.int 0) = some true := by rw [ge_I, decide_eq_true (by omega)]
      have hs : r.l - o.l - o.w = r.l - (o.l + o.w) := by omega
      have gg2 := gg
      rw [hs] at gg2
      exact ⟨_, _, by simp [evSs, evS, v_var, v_int, v_bl, v_non, v_str, v_glb, v_tup, v_lst, v_bop, v_neg, v_cmp, v_chn, v_isN, v_notN, v_land, v_lor, v_lnot, v_ite, v_call, v_bi, v_mth, v_idx, v_slc, v_rev, v_isi, v_lrg1, v_lrg2, evEs, evIfs, evIt, evPar, bind_ok, asB, dOf, dsOf, pureD, ofD, ofB, isNon, exitF, exitV, startE, List.length_cons, List.length_nil, List.map_cons, List.map_nil, List.cons_append, List.nil_append, List.append_nil, List.replicate, List.getElem?_cons_zero, List.getElem?_cons_succ, List.take_length, Option.map_some, Option.map_none, if_true, if_false, Bool.false_eq_true, Bool.not_true, Bool.not_false, List.any_cons, List.any_nil, Bool.or_false, isTy, List.set_cons_zero, List.set_cons_succ, setTg, wipeE, tgSlots, seqItems, biD, bopD, List.zip_cons_cons, List.zip_nil_left, List.zip_nil_right, List.foldl_cons, List.foldl_nil, if_neg, Nat.reduceAdd, Nat.reduceSub, reduceIte, dOf_d, a0, a1, a2, a3, b0, b1, b2, b3, e2, gg, gg2, hf, g1', r1, mthV, get_end, hz, set_end, E4.d, hs]; first | exact ⟨rfl, rfl⟩ | rfl⟩
end
end k19
end Kp
end

section
set_option Elab.async false
set_option linter.all false
set_option maxRecDepth 100000
set_option maxHeartbeats 4000077
namespace Kp
namespace k19
open PySem
section
variable {ps : List Pn} {n : Nat} {m : Store} {k : Nat} {P : Pn}
/-! the best of all, as the law looks for it -/
def lsOf (w : Way) (K : Nat) (o : Option Bx) (l : List Pn) : List E4 := l.filterMap (ent w K o)
def minE (e : E4) (l : List E4) : E4 := l.foldl (fun a y => if HT.lexLt y.l a.l = true then y else a) e
theorem best_ls (w : Way) (K : Nat) (o : Option Bx) : ∀ (l : List Pn) (b : Option E4), l.foldl (fun b q => stepB b (ent w K o q)) b = (lsOf w K o l).foldl (fun b e => stepB b (some e)) b
  | [], b => rfl
  | q :: l, b => by
    rw [List.foldl_cons, best_ls w K o l]
    unfold lsOf
    rw [List.filterMap_cons]
    cases ent w K o q with
    | none => rfl
    | some e => rfl
theorem fold_some : ∀ (l : List E4) (e : E4), l.foldl (fun b e => stepB b (some e)) (some e) = some (minE e l)
  | [], e => rfl
  | y :: l, e => by
    rw [List.foldl_cons]
    have : stepB (some e) (some y) = some (if HT.lexLt y.l e.l = true then y else e) := by
      simp only [stepB]
      split <;> rfl
    rw [this, fold_some l]
    rfl
theorem best_eq (w : Way) (K : Nat) (o : Option Bx) (l : List Pn) : best w K o l = match lsOf w K o l with
    | [] => none
    | e :: r => some (minE e r) := by
  unfold best
  rw [best_ls]
  cases lsOf w K o l with
  | nil => rfl
  | cons e r => exact fold_some r e
theorem ints_E (e : E4) : intsOf [.int e.a, .int e.f, .int e.s, .int e.j] = some e.l := rfl
theorem intss_E : ∀ l : List E4, intssOf (l.map E4.d) = some (l.map E4.l)
  | [] => rfl
  | e :: l => by simp only [List.map_cons, E4.d, intssOf, ints_E, intss_E l]
theorem minT_E : ∀ (l : List E4) (e : E4), minT e.l (l.map E4.l) = (minE e l).l
  | [], e => rfl
  | y :: l, e => by
    have h := minT_E l (if HT.lexLt y.l e.l = true then y else e)
    unfold minT minE at h ⊢
    rw [List.map_cons, List.foldl_cons, List.foldl_cons, ← h]
    congr 1
    split <;> rfl
theorem min_bi (e : E4) (l : List E4) : biD .min [.list ((e :: l).map E4.d)] = some (minE e l).d := by
  have h1 := intss_E l
  have h2 := minT_E l e
  rw [List.map_cons]
  simp only [E4.d] at h1 ⊢
  simp only [biD, ints_E, h1, h2]
  rfl
theorem E_can : ∀ d ∈ (l : List E4).map E4.d, d.canLay0 = true ∧ d.depth ≤ 5 := fun d hd => by
  obtain ⟨e, _, rfl⟩ := List.mem_map.mp hd
  simp [E4.d, PyData.canLay0, PyData.canLayAll0, PyData.depth, PyData.depthAll]
theorem ls_len (w : Way) (K : Nat) (o : Option Bx) (l : List Pn) : (lsOf w K o l).length ≤ l.length := List.length_filterMap_le _ _
theorem c_aim2 (hn : 7 ≤ n) (F : Flat ps) (w : Way) (hk : (g0 :: ps)[k + 1]? = some P) : Cn n 55 [.d (pl ps), .d (.int ((k + 1 : Nat) : Int)), .d (.str w.s)] m = .ok (.d (ansD (best w (k + 1) (seenT P) ps))) m := by
  obtain ⟨n, rfl⟩ := up1 (by omega : 1 ≤ n)
  rw [call_def (fn := f__law_aim) rfl rfl]
  have l1 := F.len
  have sn : ∀ (j : Nat) (Q : Pn) m, (g0 :: ps)[j + 1]? = some Q → Cn n 49 [.d (pl ps), .d (.int ((j + 1 : Nat) : Int))] m = .ok (.d (seenD Q)) m := fun j Q m h => c_seen (m := m) (by omega : 4 ≤ n) F h
  have own := sn k P m hk
  have fi : ∀ m, Cn n 54 [.d (pl ps), .d (.int ((k + 1 : Nat) : Int))] m = .ok (.d (.int 0)) m := fun m => c_field (m := m) (by omega : 5 ≤ n) F hk
  have st : ∀ m, Cn n 53 [.d (pl ps), .d (.int 0)] m = .ok (.d (.list (nms ps))) m := fun m => c_stops (m := m) (by omega : 6 ≤ n) F
  have axb : ax w = if (!w.al) = true then 1 else 0 := by cases w <;> rfl
  have loop := for_ok (b := bodyF (Cn n) (Gc csts) (.one 4) [.set 7 (.call 49 [.var 0, .var 4]), .ife (.land (.notN (.var 5)) (.land (.notN (.var 7)) (.cmp .ne (.var 4) (.var 1)))) [.set 8 (.bop .sub (.bop .sub (.idx (.var 7) (.var 3)) (.idx (.var 5) (.var 3))) (.idx (.var 5) (.bop .add (.int 2) (.var 3)))), .ife (.cmp .inn (.var 2) (.tup [.str "left", .str "above"])) [.set 8 (.bop .sub (.bop .sub (.idx (.var 5) (.var 3)) (.idx (.var 7) (.var 3))) (.idx (.var 7) (.bop .add (.int 2) (.var 3))))] [], .ife (.cmp .ge (.var 8) (.int 0)) [.set 9 (.bi .max [.int 0, .bop .add (.call 56 [.var 5, .var 7, .bop .sub (.int 1) (.var 3)]) (.int 1)]), .exp (.mth .append (.var 6) [.tup [.var 9, .var 8, .idx (.var 7) (.bop .sub (.int 1) (.var 3)), .var 4]])] []] []])
    (fun i env m' => m' = m ++ [.lst ((lsOf w (k + 1) (seenT P) (ps.take i)).map E4.d)] ∧ ∃ a b c d, env = [some (.d (pl ps)), some (.d (.int ((k + 1 : Nat) : Int))), some (.d (.str w.s)), some (.d (.int (ax w))), a, some (.d (seenD P)), some (.loc m.length), b, c, d])
    (nms ps) 0 [some (.d (pl ps)), some (.d (.int ((k + 1 : Nat) : Int))), some (.d (.str w.s)), some (.d (.int (ax w))), none, some (.d (seenD P)), some (.loc m.length), none, none, none] (m ++ [.lst []]) ⟨rfl, none, none, none, none, rfl⟩ (fun i x env m' hx hI => ?_)
  · obtain ⟨env', m', e1, e2, a, b, c, d, rfl⟩ := loop
    rw [Nat.zero_add, nms_len, List.take_length] at e2
    subst e2
    have lo : evS (Cn n) (Gc csts) l__law_aim_0 [some (.d (pl ps)), some (.d (.int ((k + 1 : Nat) : Int))), some (.d (.str w.s)), some (.d (.int (ax w))), none, some (.d (seenD P)), some (.loc m.length), none, none, none] (m ++ [.lst []]) = .ok (.next [some (.d (pl ps)), some (.d (.int ((k + 1 : Nat) : Int))), some (.d (.str w.s)), some (.d (.int (ax w))), a, some (.d (seenD P)), some (.loc m.length), b, c, d]) (m ++ [.lst ((lsOf w (k + 1) (seenT P) ps).map E4.d)]) := by
      simp only [l__law_aim_0, s_for, evIt, v_call, evEs, v_var, List.getElem?_cons_zero, List.getElem?_cons_succ, bind_ok, fi, st, seqItems]
      exact e1
    have hax := w_ax w
    rw [best_eq]
    generalize ((k + 1 : Nat) : Int) = K at *
    have S1 : evS (Cn n) (Gc csts) (.par [(5, false), (6, true)] [.call 49 [.var 0, .var 1], .lst []]) [some (.d (pl ps)), some (.d (.int K)), some (.d (.str w.s)), none, none, none, none, none, none, none] m = .ok (.next [some (.d (pl ps)), some (.d (.int K)), some (.d (.str w.s)), none, none, some (.d (seenD P)), some (.loc m.length), none, none, none]) (m ++ [.lst []]) := by
      simp [evS, evPar, v_call, evEs, v_var, own, v_lst, pureD, ofD, thaw_l]
    have S2 : ∀ s : Str, cmpD .inn (.str s) (.tuple [.str "above", .str "below"]) = some (!w.al) → evS (Cn n) (Gc csts) (.set 3 (.bi .int [.cmp .inn (.var 2) (.tup [.str "above", .str "below"])])) [some (.d (pl ps)), some (.d (.int K)), some (.d (.str s)), none, none, some (.d (seenD P)), some (.loc m.length), none, none, none] (m ++ [.lst []]) = .ok (.next [some (.d (pl ps)), some (.d (.int K)), some (.d (.str s)), some (.d (.int (ax w))), none, some (.d (seenD P)), some (.loc m.length), none, none, none]) (m ++ [.lst []]) := by
      intro s hs
      rw [axb]
      simp only [evS, v_bi, evEs, v_cmp, v_var, List.getElem?_cons_zero, List.getElem?_cons_succ, bind_ok, v_tup, v_str, pureD, Option.map_some, ofD, dOf_d, hs, ofB, dsOf, biD, List.set_cons_zero, List.set_cons_succ]
    have S2 := S2 w.s hax
    simp only [f__law_aim, b__law_aim, startE, List.map_cons, List.map_nil, List.length_cons, List.length_nil, List.replicate, List.cons_append, List.nil_append, Nat.reduceAdd, Nat.reduceSub, evSs, S1, S2, lo, bind_ok]
    have d1 : ∀ l, dOf (.loc m.length) (m ++ [.lst l]) = some (.list l) := fun l => by simp only [dOf, get_end]
    cases hls : lsOf w (k + 1) (seenT P) ps with
    | nil =>
      simp only [evS, v_ite, v_cmp, v_var, List.getElem?_cons_zero, List.getElem?_cons_succ, bind_ok, v_lst, evEs, pureD, Option.map_some, ofD, dOf_d, d1, List.map_nil, nil_ne, ofB, asB, Bool.false_eq_true, if_false, v_non, exitF, exitV, ansD, List.take_left]
    | cons e r =>
      have nn := ne_nil (l := (e :: r).map E4.d) (by simp) (by omega : (5 : Nat) ≤ 63) (E_can (l := e :: r))
      have mb := min_bi e r
      have ix : idxD (minE e r).d (.int 3) = some (.int (minE e r).j) := by simp [E4.d, idxD, L2.atI, L2.ixN]
      simp only [evS, v_ite, v_cmp, v_var, List.getElem?_cons_zero, List.getElem?_cons_succ, bind_ok, v_lst, evEs, pureD, Option.map_some, ofD, dOf_d, d1, nn, ofB, asB, if_true, v_idx, v_bi, dsOf, mb, v_int, ix, exitF, exitV, ansD, List.take_left]
  · rw [Nat.zero_add] at hI ⊢
    obtain ⟨rfl, a, b, c, d, rfl⟩ := hI
    have hi : i < ps.length := by
      have := (List.getElem?_eq_some_iff.mp hx).1
      rwa [nms_len] at this
    have hq : (g0 :: ps)[i + 1]? = some ps[i] := by simp
    have hnm := F.nm (i + 1) ps[i] hq
    have hx2 : x = .int ((i + 1 : Nat) : Int) := by
      rw [nms_get F hi] at hx
      exact (Option.some.inj hx).symm
    subst hx2
    have tk : ps.take (i + 1) = ps.take i ++ [ps[i]] := by
      rw [List.take_add_one, List.getElem?_eq_getElem hi]; rfl
    have lst : lsOf w (k + 1) (seenT P) (ps.take (i + 1)) = lsOf w (k + 1) (seenT P) (ps.take i) ++ (match ent w (k + 1) (seenT P) ps[i] with | none => [] | some e => [e]) := by
      unfold lsOf
      rw [tk, List.filterMap_append]
      congr 1
      cases h : ent w (k + 1) (seenT P) ps[i] <;> simp [List.filterMap_cons, h]
    rw [lst]
    have hlen : ((lsOf w (k + 1) (seenT P) (ps.take i)).map E4.d).length ≤ 100 := by
      rw [List.length_map]
      exact Nat.le_trans (ls_len _ _ _ _) (by rw [List.length_take]; omega)
    generalize lsOf w (k + 1) (seenT P) (ps.take i) = bb at *
    have sq := sn i ps[i] (m ++ [.lst (bb.map E4.d)]) hq
    have nee : cmpD .ne (.int ((i + 1 : Nat) : Int)) (.int ((k + 1 : Nat) : Int)) = some (!decide (ps[i].nm = k + 1)) := by
      rw [cmp_neI, hnm]
      congr 2
      have : (((i + 1 : Nat) : Int) == ((k + 1 : Nat) : Int)) = decide (i + 1 = k + 1) := by
        rw [Bool.eq_iff_iff]; simp; omega
      rw [this]
    have hj : ((ps[i].nm : Nat) : Int) = ((i + 1 : Nat) : Int) := by rw [hnm]
    unfold ent
    rw [body_ok rfl]
    have ft := fun (o r : Bx) (I K : Int) (a b : Option Val) => far_turn (ps := ps) (n := n) (m := m) (by omega : 1 ≤ n) w o r I K (bb.map E4.d) hlen a b
    generalize hI : ((i + 1 : Nat) : Int) = I at *
    generalize ((k + 1 : Nat) : Int) = K at *
    rw [evSs]
    have S7 : evS (Cn n) (Gc csts) (.set 7 (.call 49 [.var 0, .var 4])) ([some (.d (pl ps)), some (.d (.int K)), some (.d (.str w.s)), some (.d (.int (ax w))), a, some (.d (seenD P)), some (.loc m.length), b, c, d].set 4 (some (.d (.int I)))) (m ++ [.lst (bb.map E4.d)]) = .ok (.next [some (.d (pl ps)), some (.d (.int K)), some (.d (.str w.s)), some (.d (.int (ax w))), some (.d (.int I)), some (.d (seenD P)), some (.loc m.length), some (.d (seenD ps[i])), c, d]) (m ++ [.lst (bb.map E4.d)]) := by
      simp only [evS, v_call, evEs, v_var, List.getElem?_cons_zero, List.getElem?_cons_succ, List.set_cons_zero, List.set_cons_succ, bind_ok, sq]
    rw [S7]
    simp only [bind_ok]
    clear own sq sn
    cases hP : seenT P with
    | none =>
      have sP : seenD P = .none := by unfold seenD; rw [hP]
      rw [sP]
      refine ⟨_, m ++ [.lst (bb.map E4.d)], ?_, by simp, some (.d (.int I)), some (.d (seenD ps[i])), c, d, rfl⟩
      by_cases he : ps[i].nm = k + 1 <;> simp [evSs, evS, v_var, v_int, v_bl, v_non, v_str, v_glb, v_tup, v_lst, v_bop, v_neg, v_cmp, v_chn, v_isN, v_notN, v_land, v_lor, v_lnot, v_ite, v_call, v_bi, v_mth, v_idx, v_slc, v_rev, v_isi, v_lrg1, v_lrg2, evEs, evIfs, evIt, evPar, bind_ok, asB, dOf, dsOf, pureD, ofD, ofB, isNon, exitF, exitV, startE, List.length_cons, List.length_nil, List.map_cons, List.map_nil, List.cons_append, List.nil_append, List.append_nil, List.replicate, List.getElem?_cons_zero, List.getElem?_cons_succ, List.take_length, Option.map_some, Option.map_none, if_true, if_false, Bool.false_eq_true, Bool.not_true, Bool.not_false, List.any_cons, List.any_nil, Bool.or_false, isTy, List.set_cons_zero, List.set_cons_succ, setTg, wipeE, tgSlots, seqItems, biD, bopD, List.zip_cons_cons, List.zip_nil_left, List.zip_nil_right, List.foldl_cons, List.foldl_nil, if_neg, Nat.reduceAdd, Nat.reduceSub, reduceIte, isNon, he]
    | some o =>
      have sP : seenD P = o.d := by unfold seenD; rw [hP]
      rw [sP]
      have no : isNon (.d o.d) = false := rfl
      cases hQ : seenT ps[i] with
      | none =>
        have sQ : seenD ps[i] = .none := by unfold seenD; rw [hQ]
        rw [sQ]
        refine ⟨_, m ++ [.lst (bb.map E4.d)], ?_, by simp, some (.d (.int I)), some (.d .none), c, d, rfl⟩
        have n0 : isNon (.d .none) = true := rfl
        by_cases he : ps[i].nm = k + 1 <;> simp [evSs, evS, v_land, v_notN, v_var, no, n0, asB]
      | some r =>
        have sQ : seenD ps[i] = r.d := by unfold seenD; rw [hQ]
        rw [sQ]
        have nr : isNon (.d r.d) = false := rfl
        by_cases he : ps[i].nm = k + 1
        · rw [decide_eq_true he] at nee
          refine ⟨_, m ++ [.lst (bb.map E4.d)], ?_, by simp [he], some (.d (.int I)), some (.d r.d), c, d, rfl⟩
          simp [evSs, evS, v_land, v_notN, v_var, v_cmp, no, nr, asB, dOf_d, nee, ofB]
        · rw [decide_eq_false he] at nee
          obtain ⟨c', d', ft⟩ := ft o r I K c d
          refine ⟨_, m ++ [.lst (bb.map E4.d ++ rkL w o r I)], ?_, ?_, some (.d (.int I)), some (.d r.d), c', d', rfl⟩
          · rw [evSs, evS]
            simp only [v_land, v_notN, v_var, List.getElem?_cons_zero, List.getElem?_cons_succ, bind_ok, no, nr, Bool.not_false, asB, if_true, v_cmp, dOf_d, nee, ofB]
            rw [ft]
            simp only [bind_ok, evSs]
          · rw [if_neg he]
            unfold rkL
            simp only [hj]
            cases hr : rk w o r with
            | none => simp
            | some z => simp
end
end k19
end Kp
end

section
set_option Elab.async false
set_option linter.all false
set_option maxRecDepth 100000
set_option maxHeartbeats 4000077
namespace Kp
namespace k19
open PySem
section
variable {ps : List Pn} {n : Nat} {m : Store} {k : Nat} {P : Pn}
theorem c_pen (hn : 1 ≤ n) (c : Int) : ∃ f : Int, Cn n 39 [.d (.int c)] m = .ok (.d (.list [.int c, .int f])) m := by
  obtain ⟨n, rfl⟩ := up1 hn
  rw [call_def (fn := f__law_pen) rfl rfl]
  have p : bopD .pow (.int 10) (.int 18) = some (.int (10 ^ 18)) := by
    simp only [bopD]
    rw [if_pos (by decide)]
    rfl
  refine ⟨if decide ((10 : Int) ^ 18 ≤ c) = true then 1 else 0, ?_⟩
  simp only [f__law_pen, b__law_pen, startE, List.map_cons, List.map_nil, List.length_cons, List.length_nil, List.replicate, List.cons_append, List.nil_append, Nat.reduceAdd, Nat.reduceSub, evSs, evS, v_lst, evEs, v_var, List.getElem?_cons_zero, bind_ok, v_bi, v_cmp, v_bop, v_int, dOf_d, p, ofD, ge_I, ofB, dsOf, biD, pureD, Option.map_some, exitF, exitV, List.take_length]
theorem fdiv_ok {i j : Int} (h1 : 0 < j) (h2 : j < 1073741824) : bopD .fdiv (.int i) (.int j) = some (.int (i / j)) := by
  simp only [bopD]; rw [if_pos ⟨h1, h2⟩]
theorem mod_ok {i j : Int} (h1 : 0 < j) : bopD .mod (.int i) (.int j) = some (.int (i % j)) := by
  simp only [bopD]; rw [if_pos h1]
theorem mul_ok {i j : Int} (h : small i = true ∨ small j = true) : bopD .mul (.int i) (.int j) = some (.int (i * j)) := by
  simp only [bopD]; rw [if_pos (by rcases h with h | h <;> simp [h])]
theorem add_ok {i j : Int} : bopD .add (.int i) (.int j) = some (.int (i + j)) := rfl
theorem sub_ok {i j : Int} : bopD .sub (.int i) (.int j) = some (.int (i - j)) := rfl
theorem small_of {i : Int} (h1 : 0 ≤ i) (h2 : i < 2147483648) : small i = true := by
  unfold small
  simp only [Bool.and_eq_true, decide_eq_true_eq]
  omega
theorem set_idx0 {a : Nat} {c f x : Int} (ha : m[a]? = some (.lst [.int c, .int f])) : setIdx (.loc a) (.d (.int 0)) (.int x) m = .ok () (m.set a (.lst [.int x, .int f])) := by
  simp [setIdx, ha]
theorem get_set {a : Nat} {o o' : Ob} (ha : m[a]? = some o) : (m.set a o')[a]? = some o' := by
  rw [List.getElem?_set_self (List.getElem?_eq_some_iff.mp ha).1]
theorem c_draw (hn : 1 ≤ n) {a : Nat} {c f : Int} (ha : m[a]? = some (.lst [.int c, .int f])) {b : Int} (hb : 0 < b) (hb2 : b < 1073741824) :
    ∃ r c' : Int, 0 ≤ r ∧ r < b ∧ Cn n 40 [.loc a, .d (.int b)] m = .ok (.d (.int r)) (m.set a (.lst [.int c', .int f])) := by
  obtain ⟨n, rfl⟩ := up1 hn
  rw [call_def (fn := f__law_draw) rfl rfl]
  have d0 : ∀ {m : Store} {c : Int}, m[a]? = some (.lst [.int c, .int f]) → dOf (.loc a) m = some (.list [.int c, .int f]) := fun h => by simp [dOf, h]
  have x0 : ∀ c : Int, idxD (.list [.int c, .int f]) (.int 0) = some (.int c) := fun c => by simp [idxD, L2.atI, L2.ixN]
  have x1 : ∀ c : Int, idxD (.list [.int c, .int f]) (.int 1) = some (.int f) := fun c => by simp [idxD, L2.atI, L2.ixN]
  by_cases hf : (f == 1) = true
  · refine ⟨c % b, c / b, Int.emod_nonneg _ (by omega), Int.emod_lt_of_pos _ hb, ?_⟩
    simp only [f__law_draw, b__law_draw, startE, List.map_cons, List.map_nil, List.length_cons, List.length_nil, List.replicate, List.cons_append, List.nil_append, Nat.reduceAdd, Nat.reduceSub, evSs, evS, v_cmp, v_idx, v_var, List.getElem?_cons_zero, List.getElem?_cons_succ, bind_ok, v_int, d0 ha, dOf_d, x0, x1, ofD, cmp_eqI, hf, ofB, asB, if_true, v_bop, mod_ok hb, List.set_cons_zero, List.set_cons_succ, fdiv_ok hb hb2, set_idx0 ha, exitF, exitV]
    rw [List.take_of_length_le (by simp)]
  · have hf' : (f == 1) = false := by simpa using hf
    have M : (0 : Int) < 2147483629 := by decide
    let c1 : Int := (c % 2147483629 * 48271 + 11) % 2147483629
    have h1 : 0 ≤ c1 := Int.emod_nonneg _ (by decide)
    have h2 : c1 < 2147483629 := Int.emod_lt_of_pos _ (by decide)
    have s1 : small c1 = true := small_of h1 (by omega)
    have ha2 : (m.set a (.lst [.int c1, .int f]))[a]? = some (.lst [.int c1, .int f]) := get_set ha
    refine ⟨(c1 * c1 + 40692 * c1) % 2147483647 / 8 % b, c1, Int.emod_nonneg _ (by omega), Int.emod_lt_of_pos _ hb, ?_⟩
    have e1 : bopD .mod (.int c) (.int 2147483629) = some (.int (c % 2147483629)) := mod_ok (by decide)
    have e2 : bopD .mul (.int (c % 2147483629)) (.int 48271) = some (.int (c % 2147483629 * 48271)) := mul_ok (.inr (by decide))
    have e3 : bopD .mod (.int (c % 2147483629 * 48271 + 11)) (.int 2147483629) = some (.int c1) := mod_ok (by decide)
    have e4 : bopD .mul (.int c1) (.int c1) = some (.int (c1 * c1)) := mul_ok (.inl s1)
    have e5 : bopD .mul (.int 40692) (.int c1) = some (.int (40692 * c1)) := mul_ok (.inr s1)
    have e6 : bopD .mod (.int (c1 * c1 + 40692 * c1)) (.int 2147483647) = some (.int ((c1 * c1 + 40692 * c1) % 2147483647)) := mod_ok (by decide)
    have e7 : bopD .fdiv (.int ((c1 * c1 + 40692 * c1) % 2147483647)) (.int 8) = some (.int ((c1 * c1 + 40692 * c1) % 2147483647 / 8)) := fdiv_ok (by decide) (by decide)
    simp only [f__law_draw, b__law_draw, startE, List.map_cons, List.map_nil, List.length_cons, List.length_nil, List.replicate, List.cons_append, List.nil_append, Nat.reduceAdd, Nat.reduceSub, evSs, evS, v_cmp, v_idx, v_var, List.getElem?_cons_zero, List.getElem?_cons_succ, bind_ok, v_int, d0 ha, dOf_d, x0, x1, ofD, cmp_eqI, hf', ofB, asB, Bool.false_eq_true, if_false, v_bop, e1, e2, add_ok, e3, set_idx0 ha, d0 ha2, e4, e5, e6, e7, mod_ok hb, exitF, exitV]
    rw [List.take_of_length_le (by simp)]
theorem c_pick (hn : 2 ≤ n) {a : Nat} {c f : Int} (ha : m[a]? = some (.lst [.int c, .int f])) {l : List D} (hl : 0 < l.length) (hl2 : l.length < 1000) :
    ∃ (i : Nat) (x : D) (c' : Int), l[i]? = some x ∧ Cn n 41 [.loc a, .d (.tuple l)] m = .ok (.d x) (m.set a (.lst [.int c', .int f])) := by
  obtain ⟨n, rfl⟩ := up1 (by omega : 1 ≤ n)
  rw [call_def (fn := f__law_pick) rfl rfl]
  obtain ⟨r, c', h1, h2, h3⟩ := c_draw (n := n) (m := m) (by omega : 1 ≤ n) ha (b := (l.length : Int)) (by omega) (by omega)
  have hi : r.toNat < l.length := by omega
  have hx : l[r.toNat]? = some l[r.toNat] := List.getElem?_eq_getElem hi
  have ix : idxD (.tuple l) (.int r) = some l[r.toNat] := by
    have := atI_nat hx
    rw [show ((r.toNat : Nat) : Int) = r by omega] at this
    exact this
  have ln : biD .len [.tuple l] = some (.int (l.length : Int)) := by simp [biD, lenD]
  refine ⟨r.toNat, _, c', hx, ?_⟩
  simp only [f__law_pick, b__law_pick, startE, List.map_cons, List.map_nil, List.length_cons, List.length_nil, List.replicate, List.cons_append, List.nil_append, Nat.reduceAdd, Nat.reduceSub, evSs, evS, v_idx, v_var, List.getElem?_cons_zero, List.getElem?_cons_succ, bind_ok, v_call, evEs, v_bi, dsOf, dOf_d, ln, ofD, h3, ix, exitF, exitV]
  rw [List.take_of_length_le (by simp)]
theorem app_get {m1 : Store} {a : Nat} {o : Ob} {l : Store} (h : m1[a]? = some o) : (m1 ++ l)[a]? = some o := by
  rw [List.getElem?_append_left (List.getElem?_eq_some_iff.mp h).1]; exact h
theorem app_set {m1 : Store} {a : Nat} {o o' : Ob} {l : Store} (h : m1[a]? = some o) : (m1 ++ l).set a o' = m1.set a o' ++ l := by
  rw [List.set_append_left _ _ (List.getElem?_eq_some_iff.mp h).1]
theorem er_perm {α : Type} : ∀ {l : List α} {i : Nat} (h : i < l.length), l.Perm (l[i] :: l.eraseIdx i)
  | [], i, h => by simp at h
  | x :: l, 0, h => by simp
  | x :: l, i + 1, h => by
    have := er_perm (l := l) (i := i) (by simpa using h)
    simp only [List.getElem_cons_succ, List.eraseIdx_cons_succ]
    exact (this.cons x).trans (List.Perm.swap _ _ _)
theorem c_mixed (hn : 2 ≤ n) {a : Nat} {c f : Int} (ha : m[a]? = some (.lst [.int c, .int f])) {l : List D} (hl2 : l.length < 1000) (hcan : ∀ d ∈ l, d.canLay0 = true ∧ d.depth ≤ 5) :
    ∃ (r : List D) (c' : Int), r.Perm l ∧ Cn n 42 [.loc a, .d (.list l)] m = .ok (.d (.list r)) (m.set a (.lst [.int c', .int f])) := by
  obtain ⟨n, rfl⟩ := up1 (by omega : 1 ≤ n)
  rw [call_def (fn := f__law_mixed) rfl rfl]
  have S1 : evS (Cn n) (Gc csts) (.par [(2, true), (3, true)] [.bi .list [.var 1], .lst []]) [some (.loc a), some (.d (.list l)), none, none] m = .ok (.next [some (.loc a), some (.d (.list l)), some (.loc m.length), some (.loc (m.length + 1))]) (m ++ [.lst l, .lst []]) := by
    simp [evS, evPar, v_bi, evEs, v_var, dsOf, dOf_d, biD, ofD, v_lst, pureD, thaw_l]
  have wh := while_ok (c := fun env m => (evE (Cn n) (Gc csts) (.cmp .ne (.var 2) (.lst [])) env m).bind asB) (b := fun env m => evSs (Cn n) (Gc csts) [.exp (.mth .append (.var 3) [.mth .pop (.var 2) [.call 40 [.var 0, .bi .len [.var 2]]]])] env m)
    (fun q env m' => ∃ (m1 : Store) (left drawn : List D) (c : Int), env = [some (.loc a), some (.d (.list l)), some (.loc m.length), some (.loc (m.length + 1))] ∧ m1 = m.set a (.lst [.int c, .int f]) ∧ m' = m1 ++ [.lst left, .lst drawn] ∧ left.length = q ∧ (left ++ drawn).Perm l)
    (fun q env m' hI => ?_) (fun env m' hI => ?_) l.length whileN [some (.loc a), some (.d (.list l)), some (.loc m.length), some (.loc (m.length + 1))] (m ++ [.lst l, .lst []]) (by have : whileN = 100000 := rfl; omega)
    ⟨m, l, [], c, rfl, by
      obtain ⟨h1, h2⟩ := List.getElem?_eq_some_iff.mp ha
      rw [← h2, List.set_getElem_self], rfl, rfl, by simp⟩
  · obtain ⟨env', m', e1, m1, left, drawn, c', rfl, rfl, rfl, h4, h5⟩ := wh
    have : left = [] := List.eq_nil_of_length_eq_zero h4
    subst this
    refine ⟨drawn, c', by simpa using h5, ?_⟩
    have ew : evS (Cn n) (Gc csts) w__law_mixed_0 [some (.loc a), some (.d (.list l)), some (.loc m.length), some (.loc (m.length + 1))] (m ++ [.lst l, .lst []]) = .ok (.next [some (.loc a), some (.d (.list l)), some (.loc m.length), some (.loc (m.length + 1))]) (m.set a (.lst [.int c', .int f]) ++ [.lst [], .lst drawn]) := by
      simp only [w__law_mixed_0, s_whl]
      exact e1
    have hlen : (m.set a (.lst [.int c', .int f])).length = m.length := by simp
    have g : (m.set a (.lst [.int c', .int f]) ++ [.lst [], .lst drawn])[m.length + 1]? = some (.lst drawn) := by
      have := get2b (m := m.set a (.lst [.int c', .int f])) (o := .lst []) (p := .lst drawn)
      rwa [hlen] at this
    have tk : (m.set a (.lst [.int c', .int f]) ++ [Ob.lst [], Ob.lst drawn]).take m.length = m.set a (.lst [.int c', .int f]) := by
      rw [List.take_append_of_le_length (by omega), List.take_of_length_le (by omega)]
    have nlt : ¬ (m.length + 1 < m.length) := by omega
    simp only [f__law_mixed, b__law_mixed, startE, List.map_cons, List.map_nil, List.length_cons, List.length_nil, List.replicate, List.cons_append, List.nil_append, Nat.reduceAdd, Nat.reduceSub, evSs, S1, ew, bind_ok]
    simp only [evS, v_var, List.getElem?_cons_zero, List.getElem?_cons_succ, bind_ok, exitF, exitV, if_neg nlt, g, tk]
  · obtain ⟨m1, left, drawn, c1, rfl, rfl, rfl, h4, h5⟩ := hI
    have hlen : (m.set a (.lst [.int c1, .int f])).length = m.length := by simp
    have ha1 : (m.set a (.lst [.int c1, .int f]))[a]? = some (.lst [.int c1, .int f]) := get_set ha
    have hleft : left.length ≤ l.length := by
      have := h5.length_eq
      simp at this
      omega
    have hdr : drawn.length ≤ l.length := by
      have := h5.length_eq
      simp at this
      omega
    have lne : left ≠ [] := fun q => by subst q; simp at h4
    have lcan : ∀ d ∈ left, d.canLay0 = true ∧ d.depth ≤ 5 := fun d hd => hcan d (h5.mem_iff.mp (List.mem_append_left _ hd))
    -- the store's two lists
    have g2 : ∀ (m1 : Store) (x y : Ob), m1.length = m.length → (m1 ++ [x, y])[m.length]? = some x ∧ (m1 ++ [x, y])[m.length + 1]? = some y ∧ (∀ z, (m1 ++ [x, y]).set m.length z = m1 ++ [z, y]) ∧ ∀ z, (m1 ++ [x, y]).set (m.length + 1) z = m1 ++ [x, z] := by
      intro m1 x y h
      rw [← h]
      exact ⟨get2a, get2b, fun z => set2a, fun z => set2b⟩
    obtain ⟨p1, p2, p3, p4⟩ := g2 (m.set a (.lst [.int c1, .int f])) (.lst left) (.lst drawn) hlen
    obtain ⟨r, c2, r1, r2, r3⟩ := c_draw (n := n) (m := m.set a (.lst [.int c1, .int f]) ++ [.lst left, .lst drawn]) (by omega : 1 ≤ n) (app_get ha1) (b := (left.length : Int)) (by omega) (by omega)
    rw [app_set ha1, List.set_set] at r3
    obtain ⟨q1, q2, q3, q4⟩ := g2 (m.set a (.lst [.int c2, .int f])) (.lst left) (.lst drawn) (by simp)
    have hi : r.toNat < left.length := by omega
    have hx : left[r.toNat]? = some left[r.toNat] := List.getElem?_eq_getElem hi
    obtain ⟨s1, s2, s3, s4⟩ := g2 (m.set a (.lst [.int c2, .int f])) (.lst (left.eraseIdx r.toNat)) (.lst drawn) (by simp)
    have dL : dOf (.loc m.length) (m.set a (.lst [.int c1, .int f]) ++ [.lst left, .lst drawn]) = some (.list left) := by simp only [dOf, p1]
    have dD : dOf (.loc (m.length + 1)) (m.set a (.lst [.int c1, .int f]) ++ [.lst left, .lst drawn]) = some (.list drawn) := by simp only [dOf, p2]
    have k1 : recvOk .append (.loc (m.length + 1)) (m.set a (.lst [.int c1, .int f]) ++ [.lst left, .lst drawn]) = true := by simp only [recvOk, dD]
    have k2 : recvOk .pop (.loc m.length) (m.set a (.lst [.int c1, .int f]) ++ [.lst left, .lst drawn]) = true := by simp only [recvOk, dL]
    have ln : biD .len [.list left] = some (.int (left.length : Int)) := by simp [biD, lenD]
    have pp : mthV .pop (.loc m.length) [.int r] (m.set a (.lst [.int c2, .int f]) ++ [.lst left, .lst drawn]) = .ok (.d left[r.toNat]) (m.set a (.lst [.int c2, .int f]) ++ [.lst (left.eraseIdx r.toNat), .lst drawn]) := by
      simp only [mthV, q1]
      rw [if_pos ⟨r1, by omega⟩]
      simp only [hx, q3]
    have hz : drawn.length < sizeLine := by rw [sizeLine_eq]; omega
    have aa : mthV .append (.loc (m.length + 1)) [left[r.toNat]] (m.set a (.lst [.int c2, .int f]) ++ [.lst (left.eraseIdx r.toNat), .lst drawn]) = .ok (.d .none) (m.set a (.lst [.int c2, .int f]) ++ [.lst (left.eraseIdx r.toNat), .lst (drawn ++ [left[r.toNat]])]) := by
      simp only [mthV, s2, if_pos hz, s4]
    refine ⟨?_, _, _, ?_, m.set a (.lst [.int c2, .int f]), left.eraseIdx r.toNat, drawn ++ [left[r.toNat]], c2, rfl, rfl, rfl, ?_, ?_⟩
    · simp only [v_cmp, v_var, List.getElem?_cons_zero, List.getElem?_cons_succ, bind_ok, v_lst, evEs, pureD, Option.map_some, ofD, dOf_d, dL, ne_nil lne (by omega : (5 : Nat) ≤ 63) lcan, ofB, asB]
    · simp only [evSs, evS, v_mth, v_var, List.getElem?_cons_zero, List.getElem?_cons_succ, bind_ok, k1, if_true, evEs, k2, v_call, v_bi, dsOf, dL, ln, ofD, r3, reduceCtorEq, if_false, dOf_d, pp, pureD, Option.map_some, aa]
    · rw [List.length_eraseIdx_of_lt hi]; omega
    · have h6 : (left.eraseIdx r.toNat ++ (drawn ++ [left[r.toNat]])).Perm (left ++ drawn) := by
        have e1 : left.Perm (left[r.toNat] :: left.eraseIdx r.toNat) := er_perm hi
        have e2 : (left ++ drawn).Perm (left[r.toNat] :: (left.eraseIdx r.toNat ++ drawn)) := e1.append_right drawn
        refine List.Perm.trans ?_ e2.symm
        rw [← List.append_assoc]
        exact List.perm_append_singleton _ _
      exact h6.trans h5
  · obtain ⟨m1, left, drawn, c1, rfl, rfl, rfl, h4, h5⟩ := hI
    have : left = [] := List.eq_nil_of_length_eq_zero h4
    subst this
    have hlen : (m.set a (.lst [.int c1, .int f])).length = m.length := by simp
    have g : (m.set a (.lst [.int c1, .int f]) ++ [.lst [], .lst drawn])[m.length]? = some (.lst []) := by
      have := get2a (m := m.set a (.lst [.int c1, .int f])) (o := .lst []) (p := .lst drawn)
      rwa [hlen] at this
    have dL : dOf (.loc m.length) (m.set a (.lst [.int c1, .int f]) ++ [.lst [], .lst drawn]) = some (.list []) := by simp only [dOf, g]
    simp only [v_cmp, v_var, List.getElem?_cons_zero, List.getElem?_cons_succ, bind_ok, v_lst, evEs, pureD, Option.map_some, ofD, dOf_d, dL, nil_ne, ofB, asB]
theorem c_same (hn : 1 ≤ n) (e : Option E4) : Cn n 43 [.d (ansD e), .d (ansD e)] m = .ok (.d (.bool true)) m := by
  obtain ⟨n, rfl⟩ := up1 hn
  rw [call_def (fn := f__law_same) rfl rfl]
  have bb : cmpD .eq (.bool false) (.bool false) = some true := rfl
  cases e with
  | none =>
    have nn : cmpD .eq .none .none = some true := rfl
    simp [f__law_same, b__law_same, evSs, evS, v_var, v_int, v_bl, v_non, v_str, v_glb, v_tup, v_lst, v_bop, v_neg, v_cmp, v_chn, v_isN, v_notN, v_land, v_lor, v_lnot, v_ite, v_call, v_bi, v_mth, v_idx, v_slc, v_rev, v_isi, v_lrg1, v_lrg2, evEs, evIfs, evIt, evPar, bind_ok, asB, dOf, dsOf, pureD, ofD, ofB, isNon, exitF, exitV, startE, List.length_cons, List.length_nil, List.map_cons, List.map_nil, List.cons_append, List.nil_append, List.append_nil, List.replicate, List.getElem?_cons_zero, List.getElem?_cons_succ, List.take_length, Option.map_some, Option.map_none, if_true, if_false, Bool.false_eq_true, Bool.not_true, Bool.not_false, List.any_cons, List.any_nil, Bool.or_false, isTy, List.set_cons_zero, List.set_cons_succ, setTg, wipeE, tgSlots, seqItems, biD, bopD, List.zip_cons_cons, List.zip_nil_left, List.zip_nil_right, List.foldl_cons, List.foldl_nil, if_neg, Nat.reduceAdd, Nat.reduceSub, reduceIte, ansD, dOf_d, bb, nn]
  | some e =>
    have nn : cmpD .eq (.int e.j) (.int e.j) = some true := by rw [cmp_eqI]; simp
    simp [f__law_same, b__law_same, evSs, evS, v_var, v_int, v_bl, v_non, v_str, v_glb, v_tup, v_lst, v_bop, v_neg, v_cmp, v_chn, v_isN, v_notN, v_land, v_lor, v_lnot, v_ite, v_call, v_bi, v_mth, v_idx, v_slc, v_rev, v_isi, v_lrg1, v_lrg2, evEs, evIfs, evIt, evPar, bind_ok, asB, dOf, dsOf, pureD, ofD, ofB, isNon, exitF, exitV, startE, List.length_cons, List.length_nil, List.map_cons, List.map_nil, List.cons_append, List.nil_append, List.append_nil, List.replicate, List.getElem?_cons_zero, List.getElem?_cons_succ, List.take_length, Option.map_some, Option.map_none, if_true, if_false, Bool.false_eq_true, Bool.not_true, Bool.not_false, List.any_cons, List.any_nil, Bool.or_false, isTy, List.set_cons_zero, List.set_cons_succ, setTg, wipeE, tgSlots, seqItems, biD, bopD, List.zip_cons_cons, List.zip_nil_left, List.zip_nil_right, List.foldl_cons, List.foldl_nil, if_neg, Nat.reduceAdd, Nat.reduceSub, reduceIte, ansD, dOf_d, bb, nn]
end
end k19
end Kp
end

section
set_option Elab.async false
set_option linter.all false
set_option maxRecDepth 100000
set_option maxHeartbeats 4000077
namespace Kp
namespace k19
open PySem
section
variable {n : Nat} {m : Store}
/-- a pane of the net, as it is made -/
structure Mk (q : Pn) : Prop where
  ok : q.Ok
  up : q.up = some 0
  ms : q.ms = [("stop" : Str)]
theorem enum_get (l : List D) (i : Nat) : (enumD 0 l)[i]? = (l[i]?).map fun x => PyData.tuple [.int (i : Nat), x] := by
  have := enumD_get l 0 i
  simpa using this
theorem enum_len : ∀ (l : List D) k, (enumD k l).length = l.length
  | [], k => rfl
  | x :: l, k => by simp [enumD, enum_len l]
/-- the sorted net -/
theorem net_sort {qs : List Pn} {N : Nat} (hN : 1 ≤ N ∧ N ≤ 30) (hq : ∀ q ∈ qs, Mk q) (hp : (qs.map (·.nm)).Perm ((List.range N).map (· + 1))) : ∃ ps, Flat ps ∧ sortD ((g0 :: qs).map Pn.d) = some ((g0 :: ps).map Pn.d) := by
  let le : Pn → Pn → Bool := fun a b => decide (a.nm ≤ b.nm)
  let ps := qs.mergeSort le
  have pp : ps.Perm qs := List.mergeSort_perm qs le
  have len : ps.length = N := by rw [pp.length_eq]; have := hp.length_eq; simpa using this
  have pw : ps.Pairwise fun a b => le a b = true := List.pairwise_mergeSort (fun a b c h1 h2 => by simp only [le, decide_eq_true_eq] at *; omega) (fun a b => by simp only [le, Bool.or_eq_true, decide_eq_true_eq]; omega) qs
  have nmEq : ps.map (·.nm) = (List.range N).map (· + 1) := by
    refine List.Perm.eq_of_pairwise (le := fun a b => a ≤ b) (fun a b _ _ h1 h2 => Nat.le_antisymm h1 h2) ?_ ?_ ((pp.map _).trans hp)
    · rw [List.pairwise_map]
      exact pw.imp fun {a b} h => by simpa [le] using h
    · rw [List.pairwise_map]
      have : (List.range N).Pairwise (· < ·) := List.pairwise_lt_range
      exact this.imp fun {a b} h => by omega
  have nmAt : ∀ (i : Nat) p, ps[i]? = some p → p.nm = i + 1 := fun i p h => by
    have h1 : (ps.map (·.nm))[i]? = some p.nm := by rw [List.getElem?_map, h]; rfl
    rw [nmEq, List.getElem?_map] at h1
    have hi : i < N := by rw [← len]; exact (List.getElem?_eq_some_iff.mp h).1
    rw [List.getElem?_range hi] at h1
    simpa using h1.symm
  have F : Flat ps := by
    refine ⟨by omega, fun i p h => ?_, fun p hp' => ?_⟩
    · cases i with
      | zero => simp at h; subst h; rfl
      | succ i => exact nmAt i p (by simpa using h)
    · have := hq p (pp.mem_iff.mp hp')
      exact ⟨this.ok, this.up, this.ms⟩
  refine ⟨ps, F, ?_⟩
  have i0 : intsOf ((g0 :: qs).map Pn.d) = none := rfl
  have s0 : strsOf ((g0 :: qs).map Pn.d) = none := rfl
  have p0 : ((g0 :: qs).map Pn.d).all intPair = false := rfl
  have f0 : ∀ l : List Pn, firstsI (l.map Pn.d) = some (l.map fun q => (q.nm : Int)) := by
    intro l
    induction l with
    | nil => rfl
    | cons q r ih => simp only [List.map_cons, Pn.d, firstsI] at ih ⊢; rw [ih]; rfl
  have nd0 : (ps.map (·.nm)).Nodup := by
    rw [nmEq]
    exact List.Pairwise.map _ (fun a b h e => h (by omega)) List.nodup_range
  have nd : (((g0 :: qs).map fun q => (q.nm : Int))).Nodup := by
    rw [List.map_cons, List.nodup_cons]
    constructor
    · intro h
      obtain ⟨q, h1, h2⟩ := List.mem_map.mp h
      have : q.nm ∈ (List.range N).map (· + 1) := hp.mem_iff.mp (List.mem_map.mpr ⟨q, h1, rfl⟩)
      obtain ⟨j, _, hj⟩ := List.mem_map.mp this
      have h2 : (q.nm : Int) = 0 := h2
      omega
    · have h1 : (qs.map (·.nm)).Nodup := ((pp.map (·.nm)).nodup_iff).mp nd0
      have e : (qs.map fun q => (q.nm : Int)) = (qs.map (·.nm)).map fun j : Nat => (j : Int) := by rw [List.map_map]; rfl
      rw [e]
      exact List.Pairwise.map _ (fun a b h e => h (by omega)) h1
  have keyd : ∀ q : Pn, keyI q.d = (q.nm : Int) := fun q => rfl
  unfold sortD
  rw [i0, s0]
  simp only [p0, Bool.false_eq_true, if_false, f0, if_pos nd]
  congr 1
  refine List.Perm.eq_of_pairwise (le := fun a b => leI a b = true) (fun a b ha hb h1 h2 => ?_) (List.pairwise_mergeSort (fun a b c h1 h2 => by simp only [leI, decide_eq_true_eq] at *; omega) (fun a b => by simp only [leI, Bool.or_eq_true, decide_eq_true_eq]; omega) _) ?_ ?_
  · simp only [leI, decide_eq_true_eq] at h1 h2
    have ha' : a ∈ (g0 :: qs).map Pn.d := (List.mergeSort_perm _ _).mem_iff.mp ha
    obtain ⟨p, hp1, rfl⟩ := List.mem_map.mp ha'
    obtain ⟨q, hq1, rfl⟩ := List.mem_map.mp hb
    have hq2 : q ∈ g0 :: qs := by
      rcases List.mem_cons.mp hq1 with h | h
      · subst h; simp
      · exact List.mem_cons_of_mem _ (pp.mem_iff.mp h)
    rw [keyd, keyd] at h1 h2
    have e : (p.nm : Int) = (q.nm : Int) := by omega
    obtain ⟨i, hi⟩ := List.mem_iff_getElem?.mp hp1
    obtain ⟨j, hj⟩ := List.mem_iff_getElem?.mp hq2
    have h3 : ((g0 :: qs).map fun q => (q.nm : Int))[i]? = some (p.nm : Int) := by rw [List.getElem?_map, hi]; rfl
    have h4 : ((g0 :: qs).map fun q => (q.nm : Int))[j]? = some (q.nm : Int) := by rw [List.getElem?_map, hj]; rfl
    rw [← e] at h4
    have := nodup_get nd h3 h4
    subst this
    rw [hi] at hj
    cases hj
    rfl
  · rw [List.pairwise_map, List.pairwise_iff_getElem]
    intro i j hi hj hij
    have h1 := F.nm i _ (List.getElem?_eq_getElem hi)
    have h2 := F.nm j _ (List.getElem?_eq_getElem hj)
    simp only [leI, keyd, decide_eq_true_eq]
    omega
  · exact (List.mergeSort_perm _ _).trans ((pp.symm.cons g0).map _)
end
end k19
end Kp
end

section
set_option Elab.async false
set_option linter.all false
set_option maxRecDepth 100000
set_option maxHeartbeats 4000077
namespace Kp
namespace k19
open PySem
section
variable {n : Nat} {m : Store}
/-- the store, the pen at a as it stands -/
def Mp (m : Store) (a : Nat) (f c : Int) : Store := m.set a (.lst [.int c, .int f])
theorem Mp_get {a : Nat} {f c c0 : Int} (ha : m[a]? = some (.lst [.int c0, .int f])) : (Mp m a f c)[a]? = some (.lst [.int c, .int f]) := get_set ha
theorem Mp_len {a : Nat} {f c : Int} : (Mp m a f c).length = m.length := by simp [Mp]
theorem draw_at (hn : 1 ≤ n) {a : Nat} {f c0 : Int} (ha : m[a]? = some (.lst [.int c0, .int f])) (c : Int) (L : Store) {b : Int} (hb : 0 < b) (hb2 : b < 1073741824) :
    ∃ r c' : Int, 0 ≤ r ∧ r < b ∧ Cn n 40 [.loc a, .d (.int b)] (Mp m a f c ++ L) = .ok (.d (.int r)) (Mp m a f c' ++ L) := by
  obtain ⟨r, c', h1, h2, h3⟩ := c_draw (n := n) (m := Mp m a f c ++ L) hn (app_get (Mp_get (c := c) ha)) hb hb2
  refine ⟨r, c', h1, h2, ?_⟩
  rw [app_set (Mp_get (c := c) ha)] at h3
  rw [h3]
  simp [Mp, List.set_set]
/-- a box within bounds -/
def OkB (b : D) : Prop := ∃ x y w h : Int, b = .tuple [.int x, .int y, .int w, .int h] ∧ (-1000000 ≤ x ∧ x ≤ 1000000) ∧ (-1000000 ≤ y ∧ y ≤ 1000000) ∧ (1 ≤ w ∧ w ≤ 1000000) ∧ 1 ≤ h ∧ h ≤ 1000000
theorem mul_small {i j : Int} (h1 : 0 ≤ i) (h2 : i ≤ 1000) : bopD .mul (.int i) (.int j) = some (.int (i * j)) := mul_ok (.inl (small_of h1 (by omega)))
theorem mul_bd {i j : Int} (h1 : 0 ≤ i) (h2 : i ≤ 20) (h3 : 0 ≤ j) (h4 : j ≤ 5) : 0 ≤ i * j ∧ i * j ≤ 100 := by
  refine ⟨Int.mul_nonneg h1 h3, ?_⟩
  have : i * j ≤ 20 * 5 := Int.mul_le_mul h2 h4 h3 (by omega)
  omega
abbrev nbody : List S := [.set 7 (.tup [.bop .mul (.bop .mod (.var 5) (.int 6)) (.bop .add (.var 4) (.int 1)), .bop .mul (.bop .fdiv (.var 5) (.int 6)) (.bop .add (.var 4) (.int 1)), .var 4, .var 4]), .ife (.cmp .eq (.var 3) (.int 1)) [.set 7 (.tup [.bop .mul (.var 5) (.var 4), .int 3, .var 4, .bop .add (.int 1) (.call 40 [.var 0, .int 5])])] [], .ife (.cmp .eq (.var 3) (.int 2)) [.set 7 (.tup [.call 40 [.var 0, .int 50], .call 40 [.var 0, .int 50], .bop .add (.int 1) (.call 40 [.var 0, .int 9]), .bop .add (.int 1) (.call 40 [.var 0, .int 9])])] [], .exp (.mth .append (.var 1) [.tup [.var 6, .int 0, .var 7, .int 0, .tup [.str "stop"], .tup []]])]
theorem net_turn (hn : 1 ≤ n) {a : Nat} {f c0 : Int} (ha : m[a]? = some (.lst [.int c0, .int f])) (c : Int) (l : List D) (hl : l.length ≤ 100) (many way side at_ : Int) (j : Nat) (hj : j ≤ 1000) (hs : 1 ≤ side ∧ side ≤ 4) (hat : 0 ≤ at_ ∧ at_ ≤ 20) (x7 : Option Val) :
    ∃ (q : Pn) (c' : Int) (v : Option Val), Mk q ∧ q.nm = j ∧ evSs (Cn n) (Gc csts) nbody [some (.loc a), some (.loc m.length), some (.d (.int many)), some (.d (.int way)), some (.d (.int side)), some (.d (.int at_)), some (.d (.int (j : Int))), x7] (Mp m a f c ++ [.lst l]) =
      .ok (.next [some (.loc a), some (.loc m.length), some (.d (.int many)), some (.d (.int way)), some (.d (.int side)), some (.d (.int at_)), some (.d (.int (j : Int))), v]) (Mp m a f c' ++ [.lst (l ++ [q.d])]) := by
  -- the box
  have m6 : 0 ≤ at_ % 6 ∧ at_ % 6 ≤ 20 := ⟨Int.emod_nonneg _ (by decide), by have := Int.emod_lt_of_pos at_ (show (0 : Int) < 6 by decide); omega⟩
  have d6 : 0 ≤ at_ / 6 ∧ at_ / 6 ≤ 20 := by omega
  have X0 := mul_bd m6.1 m6.2 (j := side + 1) (by omega) (by omega)
  have Y0 := mul_bd d6.1 d6.2 (j := side + 1) (by omega) (by omega)
  have W0 := mul_bd hat.1 hat.2 (j := side) (by omega) (by omega)
  have e1 : bopD .mod (.int at_) (.int 6) = some (.int (at_ % 6)) := mod_ok (by decide)
  have e2 : bopD .fdiv (.int at_) (.int 6) = some (.int (at_ / 6)) := fdiv_ok (by decide) (by decide)
  have e3 : bopD .mul (.int (at_ % 6)) (.int (side + 1)) = some (.int (at_ % 6 * (side + 1))) := mul_small m6.1 (by omega)
  have e4 : bopD .mul (.int (at_ / 6)) (.int (side + 1)) = some (.int (at_ / 6 * (side + 1))) := mul_small d6.1 (by omega)
  have e5 : bopD .mul (.int at_) (.int side) = some (.int (at_ * side)) := mul_small hat.1 (by omega)
  have T1 : ∃ B, OkB B ∧ evS (Cn n) (Gc csts) (.set 7 (.tup [.bop .mul (.bop .mod (.var 5) (.int 6)) (.bop .add (.var 4) (.int 1)), .bop .mul (.bop .fdiv (.var 5) (.int 6)) (.bop .add (.var 4) (.int 1)), .var 4, .var 4])) [some (.loc a), some (.loc m.length), some (.d (.int many)), some (.d (.int way)), some (.d (.int side)), some (.d (.int at_)), some (.d (.int (j : Int))), x7] (Mp m a f c ++ [.lst l]) =
      .ok (.next [some (.loc a), some (.loc m.length), some (.d (.int many)), some (.d (.int way)), some (.d (.int side)), some (.d (.int at_)), some (.d (.int (j : Int))), some (.d B)]) (Mp m a f c ++ [.lst l]) := by
    refine ⟨.tuple [.int (at_ % 6 * (side + 1)), .int (at_ / 6 * (side + 1)), .int side, .int side], ⟨_, _, _, _, rfl, by omega, by omega, by omega, by omega⟩, ?_⟩
    simp only [evS, v_tup, evEs, v_bop, v_var, v_int, List.getElem?_cons_zero, List.getElem?_cons_succ, bind_ok, dOf_d, e1, e2, add_ok, ofD, e3, e4, pureD, Option.map_some, List.set_cons_zero, List.set_cons_succ]
  have T2 : ∀ B, OkB B → ∃ B' c', OkB B' ∧ evS (Cn n) (Gc csts) (.ife (.cmp .eq (.var 3) (.int 1)) [.set 7 (.tup [.bop .mul (.var 5) (.var 4), .int 3, .var 4, .bop .add (.int 1) (.call 40 [.var 0, .int 5])])] []) [some (.loc a), some (.loc m.length), some (.d (.int many)), some (.d (.int way)), some (.d (.int side)), some (.d (.int at_)), some (.d (.int (j : Int))), some (.d B)] (Mp m a f c ++ [.lst l]) =
      .ok (.next [some (.loc a), some (.loc m.length), some (.d (.int many)), some (.d (.int way)), some (.d (.int side)), some (.d (.int at_)), some (.d (.int (j : Int))), some (.d B')]) (Mp m a f c' ++ [.lst l]) := by
    intro B hB
    by_cases hw : (way == 1) = true
    · obtain ⟨r, c', r1, r2, r3⟩ := draw_at hn ha c [.lst l] (b := 5) (by decide) (by decide)
      refine ⟨.tuple [.int (at_ * side), .int 3, .int side, .int (1 + r)], c', ⟨_, _, _, _, rfl, by omega, by omega, by omega, by omega⟩, ?_⟩
      simp only [evS, evSs, v_cmp, v_tup, evEs, v_bop, v_var, v_int, v_call, List.getElem?_cons_zero, List.getElem?_cons_succ, bind_ok, dOf_d, cmp_eqI, hw, ofB, asB, if_true, e5, r3, add_ok, ofD, pureD, Option.map_some, List.set_cons_zero, List.set_cons_succ]
    · have hw' : (way == 1) = false := by simpa using hw
      refine ⟨B, c, hB, ?_⟩
      simp only [evS, evSs, v_cmp, v_var, v_int, List.getElem?_cons_zero, List.getElem?_cons_succ, bind_ok, dOf_d, cmp_eqI, hw', ofB, asB, Bool.false_eq_true, if_false]
  have T3 : ∀ B c, OkB B → ∃ B' c', OkB B' ∧ evS (Cn n) (Gc csts) (.ife (.cmp .eq (.var 3) (.int 2)) [.set 7 (.tup [.call 40 [.var 0, .int 50], .call 40 [.var 0, .int 50], .bop .add (.int 1) (.call 40 [.var 0, .int 9]), .bop .add (.int 1) (.call 40 [.var 0, .int 9])])] []) [some (.loc a), some (.loc m.length), some (.d (.int many)), some (.d (.int way)), some (.d (.int side)), some (.d (.int at_)), some (.d (.int (j : Int))), some (.d B)] (Mp m a f c ++ [.lst l]) =
      .ok (.next [some (.loc a), some (.loc m.length), some (.d (.int many)), some (.d (.int way)), some (.d (.int side)), some (.d (.int at_)), some (.d (.int (j : Int))), some (.d B')]) (Mp m a f c' ++ [.lst l]) := by
    intro B c hB
    by_cases hw : (way == 2) = true
    · obtain ⟨x, cx, x1, x2, x3⟩ := draw_at hn ha c [.lst l] (b := 50) (by decide) (by decide)
      obtain ⟨y, cy, y1, y2, y3⟩ := draw_at hn ha cx [.lst l] (b := 50) (by decide) (by decide)
      obtain ⟨w, cw, w1, w2, w3⟩ := draw_at hn ha cy [.lst l] (b := 9) (by decide) (by decide)
      obtain ⟨h, ch, h1, h2, h3⟩ := draw_at hn ha cw [.lst l] (b := 9) (by decide) (by decide)
      refine ⟨.tuple [.int x, .int y, .int (1 + w), .int (1 + h)], ch, ⟨_, _, _, _, rfl, by omega, by omega, by omega, by omega⟩, ?_⟩
      simp only [evS, evSs, v_cmp, v_tup, evEs, v_bop, v_var, v_int, v_call, List.getElem?_cons_zero, List.getElem?_cons_succ, bind_ok, dOf_d, cmp_eqI, hw, ofB, asB, if_true, x3, y3, w3, h3, add_ok, ofD, pureD, Option.map_some, List.set_cons_zero, List.set_cons_succ]
    · have hw' : (way == 2) = false := by simpa using hw
      refine ⟨B, c, hB, ?_⟩
      simp only [evS, evSs, v_cmp, v_var, v_int, List.getElem?_cons_zero, List.getElem?_cons_succ, bind_ok, dOf_d, cmp_eqI, hw', ofB, asB, Bool.false_eq_true, if_false]
  obtain ⟨B1, b1, t1⟩ := T1
  obtain ⟨B2, c2, b2, t2⟩ := T2 B1 b1
  obtain ⟨B3, c3, b3, t3⟩ := T3 B2 c2 b2
  obtain ⟨x, y, w, h, rfl, bx, by_, bw, bh⟩ := b3
  refine ⟨⟨j, some 0, x, y, w, h, [("stop" : Str)]⟩, c3, some (.d (.tuple [.int x, .int y, .int w, .int h])), ⟨⟨hj, .inr rfl, bx, by_, bw, bh, .inr rfl⟩, rfl, rfl⟩, rfl, ?_⟩
  have hz : l.length < sizeLine := by rw [sizeLine_eq]; omega
  have gl : (Mp m a f c3 ++ [Ob.lst l])[m.length]? = some (.lst l) := by
    have := get_end (m := Mp m a f c3) (o := Ob.lst l)
    rwa [Mp_len] at this
  have sl : ∀ o : Ob, (Mp m a f c3 ++ [Ob.lst l]).set m.length o = Mp m a f c3 ++ [o] := fun o => by
    have := set_end (m := Mp m a f c3) (o := Ob.lst l) (p := o)
    rwa [Mp_len] at this
  have dl : dOf (.loc m.length) (Mp m a f c3 ++ [.lst l]) = some (.list l) := by simp only [dOf, gl]
  have rc : recvOk .append (.loc m.length) (Mp m a f c3 ++ [.lst l]) = true := by simp only [recvOk, dl]
  have T4 : evS (Cn n) (Gc csts) (.exp (.mth .append (.var 1) [.tup [.var 6, .int 0, .var 7, .int 0, .tup [.str "stop"], .tup []]])) [some (.loc a), some (.loc m.length), some (.d (.int many)), some (.d (.int way)), some (.d (.int side)), some (.d (.int at_)), some (.d (.int (j : Int))), some (.d (.tuple [.int x, .int y, .int w, .int h]))] (Mp m a f c3 ++ [.lst l]) =
      .ok (.next [some (.loc a), some (.loc m.length), some (.d (.int many)), some (.d (.int way)), some (.d (.int side)), some (.d (.int at_)), some (.d (.int (j : Int))), some (.d (.tuple [.int x, .int y, .int w, .int h]))]) (Mp m a f c3 ++ [.lst (l ++ [Pn.d ⟨j, some 0, x, y, w, h, [("stop" : Str)]⟩])]) := by
    simp only [evS, v_mth, v_var, List.getElem?_cons_zero, List.getElem?_cons_succ, bind_ok, rc, if_true, evEs, v_tup, v_int, v_str, pureD, Option.map_some, Option.map_none, ofD, mthV, gl, if_pos hz, sl, Pn.d, Pn.box, upD, List.map_cons, List.map_nil]
  rw [nbody, evSs, t1]
  simp only [bind_ok]
  rw [evSs, t2]
  simp only [bind_ok]
  rw [evSs, t3]
  simp only [bind_ok]
  rw [evSs, T4]
  simp only [bind_ok, evSs]
end
end k19
end Kp
end

section
set_option Elab.async false
set_option linter.all false
set_option maxRecDepth 100000
set_option maxHeartbeats 4000077
namespace Kp
namespace k19
open PySem
section
variable {n : Nat} {m : Store}
def nmD (j : Nat) : D := .int ((j : Nat) : Int)
theorem rg_eq {N : Nat} {M : Int} (h : M = (N : Int)) : intRange 1 (M + 1) = ((List.range N).map (· + 1)).map nmD := by
  subst h
  unfold intRange
  rw [show ((N : Int) + 1 - 1).toNat = N by omega, List.map_map]
  refine List.map_congr_left fun k _ => ?_
  simp only [Function.comp_def, nmD]
  congr 1
  omega
theorem perm_nm {r : List D} {l : List Nat} (h : r.Perm (l.map nmD)) : ∃ js : List Nat, r = js.map nmD ∧ js.Perm l := by
  have inj : ∀ a b : Nat, nmD a = nmD b → a = b := fun a b e => by
    simp only [nmD, PyData.int.injEq] at e
    omega
  let un : D → Nat := fun d => match d with | .int i => i.toNat | _ => 0
  have un1 : ∀ j, un (nmD j) = j := fun j => by simp [un, nmD]
  refine ⟨r.map un, ?_, ?_⟩
  · rw [List.map_map]
    refine (List.map_id r).symm.trans (List.map_congr_left fun x hx => ?_)
    obtain ⟨j, _, rfl⟩ := List.mem_map.mp (h.mem_iff.mp hx)
    simp [un1]
  · have := h.map un
    rw [List.map_map] at this
    have e : (un ∘ nmD) = id := funext fun j => un1 j
    rwa [e, List.map_id] at this
theorem c_cell0 (hn : 1 ≤ n) (l : List D) : Cn n 38 [.d (.list l), .d (.int 0)] m = .ok (.d ((l[0]?).getD (.int 0))) m := by
  obtain ⟨n, rfl⟩ := up1 hn
  rw [call_def (fn := f__law_cell) rfl rfl]
  have ln : biD .len [.list l] = some (.int (l.length : Int)) := by simp [biD, lenD]
  cases l with
  | nil =>
    have lt : cmpD .lt (.int 0) (.int 0) = some false := rfl
    have ln0 : biD .len [.list []] = some (.int 0) := rfl
    simp only [f__law_cell, b__law_cell, startE, List.map_cons, List.map_nil, List.length_cons, List.length_nil, List.replicate, List.cons_append, List.nil_append, Nat.reduceAdd, Nat.reduceSub, evSs, evS, v_cmp, v_idx, v_var, List.getElem?_cons_zero, List.getElem?_cons_succ, bind_ok, v_bi, evEs, dsOf, dOf_d, ln0, ofD, lt, ofB, asB, Bool.false_eq_true, if_false, v_int, exitF, exitV, List.take_length, List.getElem?_nil, Option.getD_none]
  | cons x r =>
    have lt : cmpD .lt (.int 0) (.int ((x :: r).length : Int)) = some true := by
      show some (decide ((0 : Int) < ((x :: r).length : Int))) = some true
      rw [decide_eq_true (by rw [List.length_cons]; omega)]
    have ix : idxD (.list (x :: r)) (.int 0) = some x := by simp [idxD, L2.atI, L2.ixN]
    simp only [f__law_cell, b__law_cell, startE, List.map_cons, List.map_nil, List.length_cons, List.length_nil, List.replicate, List.cons_append, List.nil_append, Nat.reduceAdd, Nat.reduceSub, evSs, evS, v_cmp, v_idx, v_var, List.getElem?_cons_zero, List.getElem?_cons_succ, bind_ok, v_bi, evEs, dsOf, dOf_d, ln, ofD, v_int]
    rw [show (((r.length + 1 : Nat)) : Int) = ((x :: r).length : Int) from rfl, lt]
    simp only [ofB, bind_ok, asB, if_true, ix, ofD, exitF, exitV, List.take_length, Option.getD_some]
theorem c_net (hn : 3 ≤ n) {a : Nat} {f c0 : Int} (ha : m[a]? = some (.lst [.int c0, .int f])) :
    ∃ (ps : List Pn) (c' : Int), Flat ps ∧ Cn n 57 [.loc a] m = .ok (.d (pl ps)) (Mp m a f c') := by
  obtain ⟨n, rfl⟩ := up1 (by omega : 1 ≤ n)
  have hlen : ∀ c, (Mp m a f c).length = m.length := fun c => Mp_len
  have al : a < m.length := (List.getElem?_eq_some_iff.mp ha).1
  -- the three draws
  have m0 : m = Mp m a f c0 ++ [] := by
    rw [List.append_nil, Mp]
    obtain ⟨h1, h2⟩ := List.getElem?_eq_some_iff.mp ha
    rw [← h2, List.set_getElem_self]
  obtain ⟨d1, c1, x1, y1, z1⟩ := draw_at (n := n) (m := m) (by omega) ha c0 [] (b := 19) (by decide) (by decide)
  obtain ⟨d2, c2, x2, y2, z2⟩ := draw_at (n := n) (m := m) (by omega) ha c1 [] (b := 3) (by decide) (by decide)
  obtain ⟨d3, c3, x3, y3, z3⟩ := draw_at (n := n) (m := m) (by omega) ha c2 [] (b := 4) (by decide) (by decide)
  rw [← m0] at z1
  rw [List.append_nil] at z1 z2 z3
  rw [List.append_nil] at z2 z3
  have S1 : evS (Cn n) (Gc csts) (.par [(2, false), (3, false), (4, false)] [.bop .add (.int 2) (.call 40 [.var 0, .int 19]), .call 40 [.var 0, .int 3], .bop .add (.int 1) (.call 40 [.var 0, .int 4])]) [some (.loc a), none, none, none, none, none, none, none] m = .ok (.next [some (.loc a), none, some (.d (.int (2 + d1))), some (.d (.int d2)), some (.d (.int (1 + d3))), none, none, none]) (Mp m a f c3) := by
    simp only [evS, evPar, v_bop, v_int, v_call, evEs, v_var, List.getElem?_cons_zero, bind_ok, z1, z2, z3, dOf_d, add_ok, ofD, Bool.false_eq_true, if_false, List.zip_cons_cons, List.zip_nil_left, List.foldl_cons, List.foldl_nil, List.set_cons_zero, List.set_cons_succ]
  have gd : g0.d = .tuple [.int 0, .none, .tuple [.int 0, .int 0, .int 60, .int 60], .int 0, .tuple [], .tuple []] := rfl
  have S2 : evS (Cn n) (Gc csts) (.setM 1 (.lst [.tup [.int 0, .non, .tup [.int 0, .int 0, .int 60, .int 60], .int 0, .tup [], .tup []]])) [some (.loc a), none, some (.d (.int (2 + d1))), some (.d (.int d2)), some (.d (.int (1 + d3))), none, none, none] (Mp m a f c3) = .ok (.next [some (.loc a), some (.loc m.length), some (.d (.int (2 + d1))), some (.d (.int d2)), some (.d (.int (1 + d3))), none, none, none]) (Mp m a f c3 ++ [.lst [g0.d]]) := by
    simp only [evS, v_lst, v_tup, v_non, evEs, v_int, bind_ok, pureD, Option.map_some, ofD, thaw_l, hlen, gd, List.set_cons_zero, List.set_cons_succ]
  -- the names, mixed
  have hN : ∃ N : Nat, 2 + d1 = (N : Int) ∧ 1 ≤ N ∧ N ≤ 30 := ⟨(2 + d1).toNat, by omega, by omega, by omega⟩
  obtain ⟨N, eN, N1, N2⟩ := hN
  have rg := rg_eq (M := 2 + d1) eN
  obtain ⟨r, c4, pr, z4⟩ := c_mixed (n := n) (m := Mp m a f c3 ++ [.lst [g0.d]]) (by omega : 2 ≤ n) (app_get (Mp_get (c := c3) ha)) (l := intRange 1 (2 + d1 + 1)) (by rw [rg]; simp; omega) (fun d hd => by
    rw [rg] at hd
    obtain ⟨j, _, rfl⟩ := List.mem_map.mp hd
    exact ⟨rfl, by simp [nmD, PyData.depth]⟩)
  rw [app_set (Mp_get (c := c3) ha)] at z4
  have z4' : Cn n 42 [.loc a, .d (.list (intRange 1 (2 + d1 + 1)))] (Mp m a f c3 ++ [.lst [g0.d]]) = .ok (.d (.list r)) (Mp m a f c4 ++ [.lst [g0.d]]) := by
    rw [z4]
    simp [Mp, List.set_set]
  rw [rg] at pr
  obtain ⟨js, rfl, pj⟩ := perm_nm pr
  have jl : js.length = N := by have := pj.length_eq; simpa using this
  have jb : ∀ j ∈ js, j ≤ 30 := fun j hj => by
    have := pj.mem_iff.mp hj
    obtain ⟨i, hi, rfl⟩ := List.mem_map.mp this
    have := List.mem_range.mp hi
    omega
  have inr : (inRange 1 && inRange (2 + d1 + 1) && decide (2 + d1 + 1 - 1 ≤ sizeLine)) = true := by
    simp only [inRange, sizeLine_eq, Bool.and_eq_true, decide_eq_true_eq]
    omega
  have IT : evIt (Cn n) (Gc csts) (.enm (.call 42 [.var 0, .lrg2 (.int 1) (.bop .add (.var 2) (.int 1))])) [some (.loc a), some (.loc m.length), some (.d (.int (2 + d1))), some (.d (.int d2)), some (.d (.int (1 + d3))), none, none, none] (Mp m a f c3 ++ [.lst [g0.d]]) = .ok (enumD 0 (js.map nmD)) (Mp m a f c4 ++ [.lst [g0.d]]) := by
    simp only [evIt, v_call, evEs, v_lrg2, v_bop, v_int, v_var, List.getElem?_cons_zero, List.getElem?_cons_succ, bind_ok, dOf_d, add_ok, ofD, inr, if_true, z4']
  -- the loop
  have loop := for_ok (b := bodyF (Cn n) (Gc csts) (.many [5, 6]) nbody)
    (fun i env m' => ∃ (qs : List Pn) (c : Int) (u v w : Option Val), (∀ q ∈ qs, Mk q) ∧ qs.map (·.nm) = js.take i ∧ m' = Mp m a f c ++ [.lst ((g0 :: qs).map Pn.d)] ∧ env = [some (.loc a), some (.loc m.length), some (.d (.int (2 + d1))), some (.d (.int d2)), some (.d (.int (1 + d3))), u, v, w])
    (enumD 0 (js.map nmD)) 0 [some (.loc a), some (.loc m.length), some (.d (.int (2 + d1))), some (.d (.int d2)), some (.d (.int (1 + d3))), none, none, none] (Mp m a f c4 ++ [.lst [g0.d]]) ⟨[], c4, none, none, none, by simp, rfl, rfl, rfl⟩ (fun i x env m' hx hI => ?_)
  · obtain ⟨env', m', e1, qs, c5, u, v, w, hq, hnm, rfl, rfl⟩ := loop
    rw [Nat.zero_add, enum_len, List.length_map, List.take_length] at hnm
    have hp : (qs.map (·.nm)).Perm ((List.range N).map (· + 1)) := by rw [hnm]; exact pj
    obtain ⟨ps, F, hs⟩ := net_sort ⟨N1, N2⟩ hq hp
    refine ⟨ps, c5, F, ?_⟩
    rw [call_def (fn := f__law_net) rfl rfl]
    have lo : evS (Cn n) (Gc csts) l__law_net_0 [some (.loc a), some (.loc m.length), some (.d (.int (2 + d1))), some (.d (.int d2)), some (.d (.int (1 + d3))), none, none, none] (Mp m a f c3 ++ [.lst [g0.d]]) = .ok (.next [some (.loc a), some (.loc m.length), some (.d (.int (2 + d1))), some (.d (.int d2)), some (.d (.int (1 + d3))), u, v, w]) (Mp m a f c5 ++ [.lst ((g0 :: qs).map Pn.d)]) := by
      rw [l__law_net_0, s_for, IT]
      exact e1
    have gl : (Mp m a f c5 ++ [Ob.lst ((g0 :: qs).map Pn.d)])[m.length]? = some (.lst ((g0 :: qs).map Pn.d)) := by
      have := get_end (m := Mp m a f c5) (o := Ob.lst ((g0 :: qs).map Pn.d))
      rwa [Mp_len] at this
    have tk : (Mp m a f c5 ++ [Ob.lst ((g0 :: qs).map Pn.d)]).take m.length = Mp m a f c5 := by
      rw [List.take_append_of_le_length (by rw [Mp_len]; omega), List.take_of_length_le (by rw [Mp_len]; omega)]
    have dl : dOf (.loc m.length) (Mp m a f c5 ++ [.lst ((g0 :: qs).map Pn.d)]) = some (.list ((g0 :: qs).map Pn.d)) := by simp only [dOf, gl]
    have so : biD .sorted [.list ((g0 :: qs).map Pn.d)] = some (.list ((g0 :: ps).map Pn.d)) := by simp only [biD, hs, Option.map_some]
    have tp : biD .tuple [.list ((g0 :: ps).map Pn.d)] = some (pl ps) := rfl
    have T4 : evS (Cn n) (Gc csts) (.ret (.bi .tuple [.bi .sorted [.var 1]])) [some (.loc a), some (.loc m.length), some (.d (.int (2 + d1))), some (.d (.int d2)), some (.d (.int (1 + d3))), u, v, w] (Mp m a f c5 ++ [.lst ((g0 :: qs).map Pn.d)]) = .ok (.ret (.d (pl ps))) (Mp m a f c5 ++ [.lst ((g0 :: qs).map Pn.d)]) := by
      simp only [evS, v_bi, evEs, v_var, List.getElem?_cons_zero, List.getElem?_cons_succ, bind_ok, dsOf, dl, so, ofD, dOf_d, tp]
    have st : startE f__law_net [.loc a] = [some (.loc a), none, none, none, none, none, none, none] := rfl
    rw [st, show f__law_net.body = b__law_net from rfl, b__law_net, evSs, S1]
    simp only [bind_ok]
    rw [evSs, S2]
    simp only [bind_ok]
    rw [evSs, lo]
    simp only [bind_ok]
    rw [evSs, T4]
    simp only [bind_ok, exitF, exitV, tk]
  · rw [Nat.zero_add] at hI ⊢
    obtain ⟨qs, c, u, v, w, hq, hnm, rfl, rfl⟩ := hI
    rw [enum_get, List.getElem?_map] at hx
    have hi : i < js.length := by
      rcases Nat.lt_or_ge i js.length with h | h
      · exact h
      · rw [List.getElem?_eq_none h] at hx; simp at hx
    rw [List.getElem?_eq_getElem hi] at hx
    simp only [Option.map_some, Option.some.injEq] at hx
    subst hx
    have qi : qs.length = i := by
      have := congrArg List.length hnm
      rw [List.length_map, List.length_take] at this
      omega
    obtain ⟨q, c', v', mk, qn, ht⟩ := net_turn (n := n) (m := m) (by omega) ha c ((g0 :: qs).map Pn.d) (by simp; omega) (2 + d1) d2 (1 + d3) (i : Int) js[i] (by have := jb js[i] (List.getElem_mem hi); omega) (by omega) (by omega) w
    refine ⟨_, _, ?_, qs ++ [q], c', some (.d (.int (i : Int))), some (.d (.int (js[i] : Int))), v', ?_, ?_, rfl, rfl⟩
    · rw [body_ok (env' := [some (.loc a), some (.loc m.length), some (.d (.int (2 + d1))), some (.d (.int d2)), some (.d (.int (1 + d3))), some (.d (.int (i : Int))), some (.d (.int (js[i] : Int))), w]) rfl, ht]
      rw [show (g0 :: qs).map Pn.d ++ [q.d] = (g0 :: (qs ++ [q])).map Pn.d by simp]
    · intro z hz
      rcases List.mem_append.mp hz with h | h
      · exact hq z h
      · rw [List.mem_singleton.mp h]; exact mk
    · rw [List.map_append, hnm, List.map_cons, List.map_nil, qn, List.take_add_one, List.getElem?_eq_getElem hi]
      rfl
end
end k19
end Kp
end

section
set_option Elab.async false
set_option linter.all false
set_option maxRecDepth 100000
set_option maxHeartbeats 4000077
namespace Kp
namespace k19
open PySem
section
variable {n : Nat} {m : Store} {ps : List Pn} {k : Nat} {P : Pn}
abbrev wbody : List S := [.ife (.lnot (.call 43 [.call 37 [.var 3, .var 4, .var 5], .call 55 [.var 3, .var 4, .var 5]])) [.ret (.bl false)] []]
theorem way_turn (hn : 8 ≤ n) (F : Flat ps) (w : Way) (hk : (g0 :: ps)[k + 1]? = some P) (e0 e1 e2 : Option Val) :
    evSs (Cn n) (Gc csts) wbody [e0, e1, e2, some (.d (pl ps)), some (.d (.int ((k + 1 : Nat) : Int))), some (.d (.str w.s))] m = .ok (.next [e0, e1, e2, some (.d (pl ps)), some (.d (.int ((k + 1 : Nat) : Int))), some (.d (.str w.s))]) m := by
  have h1 := c_aim (m := m) hn F w hk
  have h2 := c_aim2 (m := m) (by omega : 7 ≤ n) F w hk
  have h3 := c_same (m := m) (by omega : 1 ≤ n) (best w (k + 1) (seenT P) ps)
  generalize ((k + 1 : Nat) : Int) = K at *
  simp only [wbody, evSs, evS, v_lnot, v_call, evEs, v_var, List.getElem?_cons_zero, List.getElem?_cons_succ, bind_ok, h1, h2, h3, asB, Bool.not_true, Bool.false_eq_true, if_false]
theorem ways_loop (hn : 8 ≤ n) (F : Flat ps) (hk : (g0 :: ps)[k + 1]? = some P) (e0 e1 e2 e5 : Option Val) :
    ∃ e, evS (Cn n) (Gc csts) l_law_0 [e0, e1, e2, some (.d (pl ps)), some (.d (.int ((k + 1 : Nat) : Int))), e5] m = .ok (.next [e0, e1, e2, some (.d (pl ps)), some (.d (.int ((k + 1 : Nat) : Int))), e]) m := by
  refine ⟨some (.d (.str Way.right.s)), ?_⟩
  have t := fun w => way_turn (m := m) hn F w hk e0 e1 e2
  generalize ((k + 1 : Nat) : Int) = K at *
  have b : ∀ (w : Way) (e5 : Option Val), bodyF (Cn n) (Gc csts) (.one 5) wbody (.str w.s) [e0, e1, e2, some (.d (pl ps)), some (.d (.int K)), e5] m = .ok (.next [e0, e1, e2, some (.d (pl ps)), some (.d (.int K)), some (.d (.str w.s))]) m := fun w e5 => by
    rw [body_ok (env' := [e0, e1, e2, some (.d (pl ps)), some (.d (.int K)), some (.d (.str w.s))]) rfl, t w]
  have IT : evIt (Cn n) (Gc csts) (.seq (.lst [.str "above", .str "below", .str "left", .str "right"])) [e0, e1, e2, some (.d (pl ps)), some (.d (.int K)), e5] m = .ok [.str Way.above.s, .str Way.below.s, .str Way.left.s, .str Way.right.s] m := by
    simp only [evIt, v_lst, evEs, v_str, bind_ok, pureD, Option.map_some, ofD, seqItems, Way.s]
  rw [l_law_0, s_for, IT]
  simp only [bind_ok, forF, b]
abbrev lbody : List S := [.setM 2 (.call 39 [.var 1]), .set 3 (.call 57 [.var 2]), .set 4 (.idx (.call 41 [.var 2, .slc (.var 3) true false (.int 1) .non]) (.int 0)), l_law_0]
theorem law_turn (hn : 8 ≤ n) (c : Int) (e0 e2 e3 e4 e5 : Option Val) : ∃ (env' : Env) (m' : Store) (f1 f2 f3 f4 f5 : Option Val), env' = [e0, f1, f2, f3, f4, f5] ∧
    evSs (Cn n) (Gc csts) lbody [e0, some (.d (.int c)), e2, e3, e4, e5] m = .ok (.next env') m' := by
  obtain ⟨f, hp⟩ := c_pen (n := n) (m := m) (by omega) c
  have ha : (m ++ [Ob.lst [.int c, .int f]])[m.length]? = some (.lst [.int c, .int f]) := get_end
  obtain ⟨ps, c1, F, hnet⟩ := c_net (n := n) (by omega : 3 ≤ n) ha
  have ha1 := Mp_get (c := c1) ha
  have l1 := F.len
  obtain ⟨i, x, c2, hx, hpk⟩ := c_pick (n := n) (by omega : 2 ≤ n) ha1 (l := ps.map Pn.d) (by simp; omega) (by simp; omega)
  rw [List.getElem?_map, Option.map_eq_some_iff] at hx
  obtain ⟨P, hP, rfl⟩ := hx
  have nP : P.nm = i + 1 := F.nm (i + 1) P (by simpa using hP)
  have sl : slcD (pl ps) (some 1) none = some (.tuple (ps.map Pn.d)) := by simp only [slcD, pl, List.map_cons, cut1]
  have ix : idxD P.d (.int 0) = some (.int ((i + 1 : Nat) : Int)) := by rw [← nP]; exact (pd_ix P).1
  obtain ⟨e, hl⟩ := ways_loop (n := n) (m := (Mp (m ++ [Ob.lst [.int c, .int f]]) m.length f c1).set m.length (.lst [.int c2, .int f])) hn F (k := i) (P := P) (by simpa using hP) e0 (some (.d (.int c))) (some (.loc m.length)) e5
  refine ⟨_, (Mp (m ++ [Ob.lst [.int c, .int f]]) m.length f c1).set m.length (.lst [.int c2, .int f]), some (.d (.int c)), some (.loc m.length), some (.d (pl ps)), some (.d (.int ((i + 1 : Nat) : Int))), e, rfl, ?_⟩
  · simp only [lbody, evSs, evS, v_call, evEs, v_var, List.getElem?_cons_zero, List.getElem?_cons_succ, bind_ok, hp, thaw_l, List.set_cons_zero, List.set_cons_succ, hnet, v_idx, v_slc, v_int, if_true, Bool.false_eq_true, if_false, dOf_d, sl, ofD, hpk, ix]
    rw [hl]
    simp only [bind_ok]
end
theorem pure_law (ns : List Int) (hl : ns.length ≤ 63) : callN (Bs defs) (Gc csts) 60 58 [.d (.list (ns.map .int))] [] = .ok (.d (.bool true)) [] := by
  have key : ∀ n, 8 ≤ n → Cn (n + 1) 58 [.d (.list (ns.map .int))] [] = .ok (.d (.bool true)) [] := by
    intro n hn
    rw [call_def (fn := f_law) rfl rfl]
    have hc := c_cell0 (n := n) (m := []) (by omega) (ns.map .int)
    have hc0 : ∃ c : Int, ((ns.map PyData.int)[0]?).getD (.int 0) = .int c := by
      cases ns with
      | nil => exact ⟨0, rfl⟩
      | cons c r => exact ⟨c, rfl⟩
    obtain ⟨c0, hc0⟩ := hc0
    rw [hc0] at hc
    let xs : List D := .int c0 :: cut (ns.map .int) (some 1) (some 2)
    have hxs : ∀ x ∈ xs, ∃ c : Int, x = .int c := fun x hx => by
      rcases List.mem_cons.mp hx with h | h
      · exact ⟨c0, h⟩
      · have : x ∈ ns.map PyData.int := by
          unfold cut at h
          exact List.mem_of_mem_drop (List.mem_of_mem_take h)
        obtain ⟨c, _, rfl⟩ := List.mem_map.mp this
        exact ⟨c, rfl⟩
    have add : bopD .add (.list [.int c0]) (.list (cut (ns.map .int) (some 1) (some 2))) = some (.list xs) := by
      have le : 1 + (cut (ns.map PyData.int) (some 1) (some 2)).length ≤ sizeLine := by
        refine szl ?_
        unfold cut
        simp
        omega
      simp [bopD, xs]
      exact le
    have IT : evIt (Cn n) (Gc csts) (.seq (.bop .add (.lst [.call 38 [.var 0, .int 0]]) (.slc (.var 0) true true (.int 1) (.int 2)))) [some (.d (.list (ns.map .int))), none, none, none, none, none] [] = .ok xs [] := by
      simp only [evIt, v_bop, v_lst, v_call, evEs, v_var, v_int, List.getElem?_cons_zero, bind_ok, hc, pureD, Option.map_some, ofD, v_slc, if_true, dOf_d, slcD, add, seqItems]
    have loop := for_ok (b := bodyF (Cn n) (Gc csts) (.one 1) lbody) (fun _ env _ => ∃ f1 f2 f3 f4 f5, env = [some (.d (.list (ns.map .int))), f1, f2, f3, f4, f5]) xs 0 [some (.d (.list (ns.map .int))), none, none, none, none, none] [] ⟨none, none, none, none, none, rfl⟩ (fun i x env m' hx hI => ?_)
    · obtain ⟨env', m', e1, _⟩ := loop
      have lo : evS (Cn n) (Gc csts) l_law_1 [some (.d (.list (ns.map .int))), none, none, none, none, none] [] = .ok (.next env') m' := by
        rw [l_law_1, s_for, IT]
        exact e1
      have st : startE f_law [.d (.list (ns.map .int))] = [some (.d (.list (ns.map .int))), none, none, none, none, none] := rfl
      rw [st, show f_law.body = b_law from rfl, b_law, evSs, lo]
      simp only [bind_ok, evSs, evS, v_bl, exitF, exitV, List.length_nil, List.take_zero]
    · obtain ⟨f1, f2, f3, f4, f5, rfl⟩ := hI
      obtain ⟨c, rfl⟩ := hxs x (List.mem_of_getElem? hx)
      obtain ⟨env', m'', g1, g2, g3, g4, g5, rfl, ht⟩ := law_turn (m := m') hn c (some (.d (.list (ns.map .int)))) f2 f3 f4 f5
      refine ⟨_, m'', ?_, g1, g2, g3, g4, g5, rfl⟩
      rw [body_ok (env' := [some (.d (.list (ns.map .int))), some (.d (.int c)), f2, f3, f4, f5]) rfl, ht]
  exact key 59 (by decide)
end k19
end Kp
end

section
set_option Elab.async false
set_option linter.all false
set_option maxRecDepth 100000
set_option maxHeartbeats 0
open PySem
open PySem.W
open PySem.Calls
open PyProof.Rows
theorem PySem.Challenge.cw_keypanes_k19_arrows_among_many_holds : PySem.Challenge.rw_keypanes_k19_arrows_among_many.Holds := by
  w_on; o_law
  refine HandSHeadRun.head_any (r := OpenLaw.row PySem.Challenge.rw_keypanes_k19_arrows_among_many) (q := view (OpenLaw.row PySem.Challenge.rw_keypanes_k19_arrows_among_many).prog [77]) (H := Kp.k19.hk) (ob := Kp.k19.ob) (M := 4000) (loose := Kp.k19.namesOf)
    (d := HandSHeadRun.topDef (OpenLaw.row PySem.Challenge.rw_keypanes_k19_arrows_among_many).prog 77) (kwd := []) Kp.k19.ob_eq
    (by kernel_rfl) (fun s => by kernel_rfl) Kp.k19.run (by kernel_rfl) (by kernel_rfl) (by kernel_rfl) (by rfl) (by first | assumption | decide +kernel) (by decide +kernel) ⟨rfl, rfl, rfl, rfl, rfl, by decide +kernel⟩ ?hw ?hc
  case hw => w_witness2
  case hc =>
    exact Kp.law_end (l := PySem.Challenge.rw_keypanes_k19_arrows_among_many) (k := 60) (li := 58) (s0 := Kp.k19.s_law) (x := "_law_script") rfl (by kernel_rfl) ⟨rfl, by decide, by decide⟩ (fun s hs => List.all_eq_true.mp Kp.k19.chk s hs) (by rfl) (by kernel_rfl) rfl rfl Kp.k19.pure_law
end
