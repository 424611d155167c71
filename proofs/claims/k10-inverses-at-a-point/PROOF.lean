import PyProof.Rows.All
import Wide.All
import OpenK.AllK
import Wide.FinOn
import HandS.ForMost
import HandS.ForExc
import HandS.TryOnly
import HandS.ExcOwn
import PyProof.ExcBaseAll.ValueError
import HandS.TupAny
import HandS.WideBits
import HandS.List
import PyProof.AutoSeq1
import HandS.Wide
import HandS.Flow
import HandS.TupMul
import HandS.Gcd
import KE.KMathGC
import KE.KTupSum
import HandS.Deep
import HandS.IsInst
import HandS.Conv
import HandS.Zip
import HandS.SortKw
import HandS.Sort
import HandS.SetFor
import HandS.Strs
import HandS.RevRange
import KE.GoesMore
import HandS.Dict
import KE.KDictPairs
import HandS.SetKeys
import HandS.More
import HandS.Rev
import HandS.DictComp
import PyProof.SeqIndex
import HandS.Iter
import HandS.RevTup
import HandS.ExcIs
import HandS.HotCalls
import PyProof.Rows.CountFlat
import HandS.Defaults
import HandS.Head0
import HandS.Head1
import HandS.Head2
import HandS.HeadEnd
import HandS.HeadHook1
import HandS.HeadHook2
import HandS.Head3
import HandS.HeadHook4
import PySem.Challenge.RW_plantrace_k10_inverses_at_a_point
set_option Elab.async false
set_option linter.all false
set_option maxRecDepth 100000
set_option maxHeartbeats 4000000
set_option Elab.async false
set_option linter.all false
set_option maxRecDepth 100000
/-! Ev1: values, the small language, its meaning. -/
namespace Ev
open PySem

/-- values: tuples are data, other containers stand in the heap -/
inductive W where
  | non | bl (b : Bool) | int (i : Int) | str (x : Str) | tup (xs : List W) | fl (xs : List W) | ref (n : Nat) | rg (i j : Int)

/-- what stands in the heap -/
inductive O where
  | lst (xs : List W)
  /-- a dict with whole keys; one with keys that are tuples; b: it is walked -/
  | dic (b : Bool) (kvs : List (Int × W))
  | dit (b : Bool) (kvs : List (List L2.Key × W))
abbrev Hw := List O
abbrev En := List (Option W)
/-- an exception: its class, its fields -/
structure Ex where
  cls : Nat
  args : List W

inductive Res (α : Type) where
  | ok (a : α) (h : Hw) | exc (e : Ex) (h : Hw) | err
def Res.bind {α β : Type} : Res α → (α → Hw → Res β) → Res β
  | .ok a h, f => f a h
  | .exc e h, _ => .exc e h
  | .err, _ => .err
@[simp] theorem Res.bind_ok {α β : Type} (a : α) (h : Hw) (f : α → Hw → Res β) : (Res.ok a h).bind f = f a h := rfl
@[simp] theorem Res.bind_exc {α β : Type} (e : Ex) (h : Hw) (f : α → Hw → Res β) : (Res.exc e h).bind f = .exc e h := rfl
theorem Res.bind_assoc {α β γ : Type} (r : Res α) (f : α → Hw → Res β) (g : β → Hw → Res γ) : (r.bind f).bind g = r.bind fun a h => (f a h).bind g := by cases r <;> rfl
@[simp] theorem Res.bind_err {α β : Type} (f : α → Hw → Res β) : (Res.err : Res α).bind f = .err := rfl

def lim : Nat := 16777216

/-! ### operators -/
inductive Bop | add | sub | mul | fdiv | mod | pow
  deriving DecidableEq
inductive Cop | eq | ne | lt | le | gt | ge | inn | nin | isN | notN
  deriving DecidableEq

def mulOk (i j : Int) : Bool := decide (i.natAbs < 18446744073709551616) || decide (j.natAbs < 18446744073709551616)
def divOk (j : Int) : Bool := decide (0 < j) && decide (j < 2 ^ 200)
def powOk (i j : Int) : Bool := decide (0 ≤ j) && decide (j ≤ 1000) && decide (i.natAbs < 18446744073709551616)

/-- a list or tuple that is read -/
def seqOf (h : Hw) : W → Option (List W)
  | .tup xs => some xs
  | .fl xs => some xs
  | .ref n => match h[n]? with
    | some (.lst xs) => some xs
    | _ => none
  | _ => none

def bop (o : Bop) (a b : W) (h : Hw) : Res W :=
  match o, a, b with
  | .add, .int i, .int j => .ok (.int (i + j)) h
  | .sub, .int i, .int j => .ok (.int (i - j)) h
  | .mul, .int i, .int j => if mulOk i j = true then .ok (.int (i * j)) h else .err
  | .fdiv, .int i, .int j => if divOk j = true then .ok (.int (i / j)) h else .err
  | .mod, .int i, .int j => if 0 < j then .ok (.int (i % j)) h else .err
  | .pow, .int i, .int j => if powOk i j = true then .ok (.int (i ^ j.toNat)) h else .err
  | .add, .tup xs, .tup ys => if xs.length + ys.length ≤ lim then .ok (.tup (xs ++ ys)) h else .err
  | .mul, .tup xs, .int k => if xs.length * k.toNat ≤ 1000000 ∧ k ≤ 1000000 ∧ -(2 ^ 62) < k then .ok (.tup (List.replicate k.toNat xs).flatten) h else .err
  | .add, .ref p, .ref q => match h[p]?, h[q]? with
    | some (.lst xs), some (.lst ys) => if xs.length + ys.length ≤ lim then .ok (.ref h.length) (h ++ [.lst (xs ++ ys)]) else .err
    | _, _ => .err
  | .mul, .ref p, .int k => match h[p]? with
    | some (.lst xs) => if xs.length * k.toNat ≤ lim ∧ k < 2 ^ 62 ∧ -(2 ^ 62) < k then .ok (.ref h.length) (h ++ [.lst (List.replicate k.toNat xs).flatten]) else .err
    | _ => .err
  | _, _, _ => .err

/-! data of a value, for ==: lists to one level, tuples to any -/
mutual
def W.toD (h : Hw) : W → Option PyData
  | .non => some .none
  | .bl b => some (.bool b)
  | .int i => some (.int i)
  | .str x => if PyData.strOk x = true then some (.str x) else none
  | .tup xs => (W.toDs h xs).map .tuple
  | .fl xs => (W.toDs h xs).map .list
  | .ref _ => none
  | .rg _ _ => none
def W.toDs (h : Hw) : List W → Option (List PyData)
  | [] => some []
  | x :: xs => match W.toD h x, W.toDs h xs with
    | some d, some ds => some (d :: ds)
    | _, _ => none
end
def W.toD1 (h : Hw) : W → Option PyData
  | .ref n => match h[n]? with
    | some (.lst xs) => (W.toDs h xs).map .list
    | _ => none
  | w => W.toD h w
def eqW (a b : W) (h : Hw) : Option Bool :=
  match W.toD1 h a, W.toD1 h b with
  | some d, some e => if d.depth ≤ 64 ∧ e.depth ≤ 64 then some (PyData.eqv d e) else none
  | _, _ => none

/-- scalars, for in and index -/
def flat : W → Bool
  | .non => true | .bl _ => true | .int _ => true | .str _ => true
  | _ => false

/-- a in b, b a list of data -/
def inW (a b : W) (h : Hw) : Option Bool :=
  match W.toD1 h a, W.toD1 h b with
  | some d, some (.list ds) => if d.depth ≤ 64 ∧ (PyData.list ds).depth ≤ 64 then some (ds.any fun z => PyData.eqv z d) else none
  | some d, some (.tuple ds) => if d.depth ≤ 64 ∧ (PyData.tuple ds).depth ≤ 64 then some (ds.any fun z => PyData.eqv z d) else none
  | _, _ => none
def cmp (o : Cop) (a b : W) (h : Hw) : Res W :=
  match o with
  | .eq => match eqW a b h with | some k => .ok (.bl k) h | none => .err
  | .ne => match eqW a b h with | some k => .ok (.bl (!k)) h | none => .err
  | .lt => match a, b with | .int i, .int j => .ok (.bl (decide (i < j))) h | _, _ => .err
  | .le => match a, b with | .int i, .int j => .ok (.bl (decide (i ≤ j))) h | _, _ => .err
  | .gt => match a, b with | .int i, .int j => .ok (.bl (decide (j < i))) h | _, _ => .err
  | .ge => match a, b with | .int i, .int j => .ok (.bl (decide (j ≤ i))) h | _, _ => .err
  | .isN => .ok (.bl (match a with | .non => true | _ => false)) h
  | .notN => .ok (.bl (match a with | .non => false | _ => true)) h
  | .inn => match inW a b h with | some k => .ok (.bl k) h | none => .err
  | .nin => match inW a b h with | some k => .ok (.bl (!k)) h | none => .err

def truth (w : W) (h : Hw) : Option Bool :=
  match w with
  | .non => some false
  | .bl b => some b
  | .int i => some (i != 0)
  | .tup xs => some (!xs.isEmpty)
  | .fl xs => some (!xs.isEmpty)
  | .ref n => match h[n]? with
    | some (.lst xs) => some (!xs.isEmpty)
    | _ => none
  | _ => none

/-- the place of index i -/
def ixN (n : Nat) (i : Int) : Option Nat := if 0 ≤ i then (if i < n then some i.toNat else none) else if -(n : Int) ≤ i then some (i + n).toNat else none
def sIx (n d : Nat) : Option Int → Nat
  | none => d
  | some i => if i < 0 then (i + n).toNat else min i.toNat n
def cut (xs : List W) (lo hi : Option Int) : List W := (xs.drop (sIx xs.length 0 lo)).take (sIx xs.length xs.length hi - sIx xs.length 0 lo)

def item (a i : W) (h : Hw) : Res W :=
  match i with
  | .int k => match seqOf h a with
    | some xs => match ixN xs.length k with
      | some j => match xs[j]? with
        | some v => .ok v h
        | none => .err
      | none => .err
    | none => .err
  | _ => .err
def slice (a : W) (lo hi : Option Int) (h : Hw) : Res W :=
  match a with
  | .tup xs => .ok (.tup (cut xs lo hi)) h
  | .ref n => match h[n]? with
    | some (.lst xs) => .ok (.ref h.length) (h ++ [.lst (cut xs lo hi)])
    | _ => .err
  | _ => .err

/-- toInts of a list of values -/
def toInts : List W → Option (List Int)
  | [] => some []
  | .int i :: r => (toInts r).map (i :: ·)
  | _ :: _ => none

/-- built-in types for isinstance -/
inductive Ty | int | bool | str | tup | lst
  deriving DecidableEq
def isTy (w : W) (t : Ty) (h : Hw) : Option Bool :=
  match w with
  | .non => some false
  | .bl _ => some (match t with | .int => true | .bool => true | _ => false)
  | .int _ => some (match t with | .int => true | _ => false)
  | .str _ => some (match t with | .str => true | _ => false)
  | .tup _ => some (match t with | .tup => true | _ => false)
  | .fl _ => some (match t with | .lst => true | _ => false)
  | .rg _ _ => none
  | .ref n => match h[n]? with
    | some (.lst _) => some (match t with | .lst => true | _ => false)
    | _ => none

/-- built-in functions by values -/
inductive Bi | len | abs | toInt | isI (t : Ty) | max2 | min2 | divmod | lcm | gcd
  deriving DecidableEq
def bi (f : Bi) (vs : List W) (h : Hw) : Res W :=
  match f, vs with
  | .len, [a] => match seqOf h a with | some xs => .ok (.int xs.length) h | none => .err
  | .abs, [.int i] => .ok (.int (if i < 0 then -i else i)) h
  | .toInt, [.int i] => .ok (.int i) h
  | .toInt, [.bl b] => .ok (.int (if b then 1 else 0)) h
  | .isI t, [a] => match isTy a t h with | some k => .ok (.bl k) h | none => .err
  | .max2, [.int i, .int j] => .ok (.int (if j > i then j else i)) h
  | .min2, [.int i, .int j] => .ok (.int (if j < i then j else i)) h
  | .divmod, [.int i, .int j] => if divOk j = true then .ok (.tup [.int (i / j), .int (i % j)]) h else .err
  | .lcm, [.int i, .int j] => if i.natAbs < 18446744073709551616 ∧ j.natAbs < 18446744073709551616 then .ok (.int ((i.natAbs.lcm j.natAbs : Nat) : Int)) h else .err
  | .gcd, [.int i, .int j] => .ok (.int ((i.natAbs.gcd j.natAbs : Nat) : Int)) h
  | _, _ => .err

/-- built-in functions of one sequence -/
inductive Bl | sum | max | min | tuple | list | len | sorted
  deriving DecidableEq
def maxL : List Int → Int
  | [] => 0
  | x :: xs => xs.foldl (fun m y => if y > m then y else m) x
def minL : List Int → Int
  | [] => 0
  | x :: xs => xs.foldl (fun m y => if y < m then y else m) x
/-- insertion sort -/
def ins (x : Int) : List Int → List Int
  | [] => [x]
  | y :: ys => if x ≤ y then x :: y :: ys else y :: ins x ys
def isort : List Int → List Int
  | [] => []
  | x :: xs => ins x (isort xs)
/-- max of a list, j of none; b: a tuple (not served) -/
def maxDf (xs : List W) (b : Bool) (j : Int) (h : Hw) : Res W :=
  if b = true then .err else match toInts xs with
    | some [] => .ok (.int j) h
    | some (n :: ns) => .ok (.int (maxL (n :: ns))) h
    | none => .err
def srtf (xs : List W) (_ : Bool) (h : Hw) : Res W :=
  match toInts xs with
    | some ns => if ns.length < 64 then .ok (.ref h.length) (h ++ [.lst ((isort ns).map .int)]) else .err
    | none => .err
/-- without doubles, in order -/
def insD (x : Int) : List Int → List Int
  | [] => [x]
  | y :: ys => if x < y then x :: y :: ys else if x = y then y :: ys else y :: insD x ys
def dsort : List Int → List Int
  | [] => []
  | x :: xs => insD x (dsort xs)
/-- sorted(set(xs)) of a tuple or a list -/
def srtDf (xs : List W) (_ : Bool) (h : Hw) : Res W :=
  match toInts xs with
    | some ns => if ns.length < 64 then .ok (.ref h.length) (h ++ [.lst ((dsort ns).map .int)]) else .err
    | none => .err
/-! equal data -/
mutual
def W.eqb : W → W → Bool
  | .non, .non => true
  | .bl a, .bl b => decide (a = b)
  | .int a, .int b => decide (a = b)
  | .str a, .str b => decide (a = b)
  | .tup xs, .tup ys => W.eqbs xs ys
  | _, _ => false
def W.eqbs : List W → List W → Bool
  | [], [] => true
  | x :: xs, y :: ys => W.eqb x y && W.eqbs xs ys
  | _, _ => false
end
/-- the truth values of a list -/
def toBls : List W → Option (List Bool)
  | [] => some []
  | .bl i :: r => (toBls r).map (i :: ·)
  | _ => none
/-- all and any of a list of truth values -/
def aaf (k : Bool) (xs : List W) (b : Bool) (h : Hw) : Res W :=
  if b = true then .err else match toBls xs with
    | some bs => .ok (.bl (if k then bs.all id else bs.any id)) h
    | none => .err
def bl (f : Bl) (xs : List W) (h : Hw) : Res W :=
  match f with
  | .sum => match toInts xs with | some ns => .ok (.int ns.sum) h | none => .err
  | .max => match toInts xs with | some (n :: ns) => .ok (.int (maxL (n :: ns))) h | _ => .err
  | .min => match toInts xs with | some (n :: ns) => .ok (.int (minL (n :: ns))) h | _ => .err
  | .tuple => .ok (.tup xs) h
  | .list => .ok (.ref h.length) (h ++ [.lst xs])
  | .len => .ok (.int xs.length) h
  | .sorted => match toInts xs with | some ns => if ns.length < 64 then .ok (.ref h.length) (h ++ [.lst ((isort ns).map .int)]) else .err | none => .err

/-! dicts with whole keys -/
def lookD (kvs : List (Int × W)) (k : Int) : Option W := (kvs.find? fun kv => decide (kv.1 = k)).map (·.2)
def putD : List (Int × W) → Int → W → List (Int × W)
  | [], k, w => [(k, w)]
  | p :: r, k, w => if p.1 = k then (k, w) :: r else p :: putD r k w
/-- each key once -/
def NdD (kvs : List (Int × W)) : Prop := (kvs.map (·.1)).Nodup
/-- d[k] -/
def dgetV (x y : W) (h : Hw) : Res W := match x, y with
  | .ref n, .int i => match h[n]? with
    | some (.dic _ kvs) => (match lookD kvs i with | some w => .ok w h | none => .err)
    | _ => .err
  | _, _ => .err
/-- d.get(k, z) -/
def dgtV (x y z : W) (h : Hw) : Res W := match x, y with
  | .ref n, .int i => match h[n]? with
    | some (.dic _ kvs) => (match lookD kvs i with | some w => .ok w h | none => .ok z h)
    | _ => .err
  | _, _ => .err
/-- k in d -/
def dinV (b : Bool) (y x : W) (h : Hw) : Res W := match x, y with
  | .ref n, .int i => match h[n]? with
    | some (.dic _ kvs) => .ok (.bl ((lookD kvs i).isSome == b)) h
    | _ => .err
  | _, _ => .err
/-- d[k] = v -/
def dputV (x y v : W) (h : Hw) : Option Hw := match x, y with
  | .ref n, .int i => match h[n]? with
    | some (.dic false kvs) => if kvs.length < lim then some (h.set n (.dic false (putD kvs i v))) else none
    | _ => none
  | _, _ => none
/-- pairs with whole keys -/
def toPrs : List W → Option (List (Int × W))
  | [] => some []
  | .tup [.int k, w] :: r => (toPrs r).map ((k, w) :: ·)
  | _ :: _ => none
def mrgD : List (Int × W) → List (Int × W) → List (Int × W)
  | acc, [] => acc
  | acc, p :: r => mrgD (putD acc p.1 p.2) r
/-- key, value, key, value -/
def toPr2 : List W → Option (List (Int × W))
  | [] => some []
  | .int k :: w :: r => (toPr2 r).map ((k, w) :: ·)
  | _ => none
/-- dict(xs) -/
def dmkV (xs : List W) (h : Hw) : Res W := match toPrs xs with
  | some kvs => .ok (.ref h.length) (h ++ [.dic false (mrgD [] kvs)])
  | none => .err
/-- dict(d) -/
def dcpV (x : W) (h : Hw) : Res W := match x with
  | .ref n => match h[n]? with
    | some (.dic _ kvs) => .ok (.ref h.length) (h ++ [.dic false kvs])
    | _ => .err
  | _ => .err
/-- {k: v, ..} -/
def ddlV (n : Nat) (vs : List W) (h : Hw) : Res W := match toPr2 vs, h[n]? with
  | some kvs, some (.dic false []) => if kvs.length ≤ 15 then .ok (.ref n) (h.set n (.dic false (mrgD [] kvs))) else .err
  | _, _ => .err
/-- d.setdefault(k, z) -/
def dstV (x y z : W) (h : Hw) : Res W := match x, y with
  | .ref n, .int i => match h[n]? with
    | some (.dic false kvs) => if kvs.length < lim then (match lookD kvs i with
      | some w => .ok w h
      | none => .ok z (h.set n (.dic false (putD kvs i z)))) else .err
    | _ => .err
  | _, _ => .err
/-- max(d.values()) -/
def dvmV (x : W) (h : Hw) : Res W := match x with
  | .ref n => match h[n]? with
    | some (.dic false kvs) => (match toInts (kvs.map (·.2)) with
      | some (n :: ns) => .ok (.int (maxL (n :: ns))) h
      | _ => .err)
    | _ => .err
  | _ => .err
/-- sorted(d) -/
def dsrV (x : W) (h : Hw) : Res W := match x with
  | .ref n => match h[n]? with
    | some (.dic _ kvs) => if kvs.length < 64 then .ok (.ref h.length) (h ++ [.lst ((isort (kvs.map (·.1))).map .int)]) else .err
    | _ => .err
  | _ => .err
def isDic (x : W) (h : Hw) : Bool := match x with
  | .ref n => match h[n]? with
    | some (.dic _ _) => true
    | _ => false
  | _ => false
/-- t.index(k), t a tuple of whole numbers -/
def tixV (x y : W) (h : Hw) : Res W := match x, y with
  | .tup xs, .int k => match toInts xs with
    | some ns => (match ns.idxOf? k with | some i => .ok (.int i) h | none => .err)
    | none => .err
  | _, _ => .err
/-- methods, by values -/
inductive Mt | append | extend | pop | popAt | index | count | insert | reverse | remove
  deriving DecidableEq
/-- the first place of v in b -/
def ixW (v b : W) (h : Hw) : Option Nat :=
  match W.toD1 h v, W.toD1 h b with
  | some d, some (.list ds) => if d.depth ≤ 64 ∧ (PyData.list ds).depth ≤ 64 then ds.findIdx? (fun z => PyData.eqv z d) else none
  | _, _ => none
def mt (f : Mt) (o : W) (vs : List W) (h : Hw) : Res W :=
  match f, o, vs with
  | .append, .ref p, [v] => match h[p]? with
    | some (.lst xs) => if xs.length < lim then .ok .non (h.set p (.lst (xs ++ [v]))) else .err
    | _ => .err
  | .extend, .ref p, [.ref q] => match h[p]?, h[q]? with
    | some (.lst xs), some (.lst ys) => if xs.length + ys.length ≤ lim then .ok .non (h.set p (.lst (xs ++ ys))) else .err
    | _, _ => .err
  | .extend, .ref p, [.tup ys] => match h[p]? with
    | some (.lst xs) => if xs.length + ys.length ≤ lim then .ok .non (h.set p (.lst (xs ++ ys))) else .err
    | _ => .err
  | .pop, .ref p, [] => match h[p]? with
    | some (.lst xs) => match xs[xs.length - 1]? with
      | some v => .ok v (h.set p (.lst xs.dropLast))
      | none => .err
    | _ => .err
  | .reverse, .ref p, [] => match h[p]? with
    | some (.lst xs) => .ok .non (h.set p (.lst xs.reverse))
    | _ => .err
  | .popAt, .ref p, [.int i] => if -(2 ^ 62) ≤ i ∧ i < 2 ^ 62 then match h[p]? with
    | some (.lst xs) => match ixN xs.length i with
      | some k => match xs[k]? with
        | some v => .ok v (h.set p (.lst (xs.eraseIdx k)))
        | none => .err
      | none => .err
    | _ => .err
    else .err
  | .index, .ref p, [v] => match ixW v (.ref p) h with | some k => .ok (.int k) h | none => .err
  | .insert, .ref p, [.int i, v] => match h[p]? with
    | some (.lst xs) => if xs.length < lim ∧ 0 ≤ i ∧ i < 2 ^ 62 then .ok .non (h.set p (.lst (xs.take i.toNat ++ [v] ++ xs.drop i.toNat))) else .err
    | _ => .err
  | .remove, .ref p, [.int k] => match h[p]? with
    | some (.lst xs) => (match toInts xs with
      | some ns => (match ns.idxOf? k with | some j => .ok .non (h.set p (.lst ((ns.eraseIdx j).map .int))) | none => .err)
      | none => .err)
    | _ => .err
  | .count, .ref p, [.int k] => match h[p]? with
    | some (.lst xs) => (match toInts xs with | some ns => .ok (.int (ns.count k : Nat)) h | none => .err)
    | _ => .err
  | _, _, _ => .err

def setIt (o i v : W) (h : Hw) : Option Hw :=
  match o, i with
  | .ref p, .int k => match h[p]? with
    | some (.lst xs) => match ixN xs.length k with
      | some j => some (h.set p (.lst (xs.set j v)))
      | none => none
    | _ => none
  | _, _ => none

/-- an item of a list, from the front -/
def itemL (x y : W) (h : Hw) : Res W := match x, y with
  | .ref p, .int k => match h[p]? with
    | some (.lst xs) => if 0 ≤ k then (match xs[k.toNat]? with | some v => .ok v h | none => .err) else .err
    | _ => .err
  | _, _ => .err
def augO (p : Bop) (w v : W) : Option W := match p, w, v with
  | .add, .int a, .int b => some (.int (a + b))
  | .sub, .int a, .int b => some (.int (a - b))
  | _, _, _ => none
/-! ### the small language -/
/-- targets -/
inductive IG where
  | var (i : Nat)
  | tup (ts : List IG)
mutual
inductive IE where
  | var (i : Nat)
  | cst (w : W)
  | bin (o : Bop) (a b : IE)
  | neg (a : IE)
  | cmp (o : Cop) (a b : IE)
  | and (a b : IE) | or (a b : IE) | not (a : IT)
  | ite (c : IT) (a b : IE)
  | tup (es : IEs) | lst (es : IEs)
  | idx (a b : IE)
  | slc (a : IE) (lo hi : IP)
  | call (f : Nat) (es : IEs)
  | bi (f : Bi) (es : IEs)
  | bl (f : Bl) (l : IL)
  | mt (f : Mt) (o : IE) (es : IEs)
  | mk (l : IL)
  | lr1 (a : IE) | lr2 (a b : IE)
  | maxD (l : IL) (j : Int) | srt (l : IL) | aa (k : Bool) (l : IL) | tr2 (a b : IE) | glc (w : W) | rgN (a : IE) | srtD (l : IL)
  | dnew
  | dget (d k : IE)
  | dgt (d k x : IE)
  | din (b : Bool) (k d : IE)
  | dmk (l : IL)
  | dcp (e : IE)
  | ddl (es : IEs)
  | dcm (g : IG) (it : II) (ts : ITs) (k v : IE) (own : List Nat)
  | dst (d k x : IE)
  | dvm (d : IE)
  | dsr (d : IE)
  | chn (o p : Cop) (a b c : IE)
  | trv (l : IL)
  | tix (a b : IE)
  | lck (g e : IE)
inductive IEs where
  | nil | cons (e : IE) (es : IEs)
inductive IP where
  | no | at (e : IE)
/-- tests -/
inductive IT where
  | val (e : IE) | and (a b : IT) | or (a b : IT) | not (a : IT)
/-- a new list that only the place where it stands sees; or the items of a value -/
inductive IL where
  | of (e : IE)
  | disp (es : IEs)
  | comp (g : IG) (it : II) (ts : ITs) (elt : IE) (own : List Nat)
  | comp2 (g : IG) (it : II) (ts : ITs) (g2 : IG) (it2 : II) (ts2 : ITs) (elt : IE) (own own2 : List Nat)
inductive ITs where
  | nil | cons (t : IT) (ts : ITs)
/-- what is walked -/
inductive II where
  | of (l : IL)
  | rng1 (a : IE)
  | rng2 (a b : IE)
  | rng3 (a b : IE)
  | rgR (a : IE)
  | rv (l : IL)
  | rgv (e : IE)
  | dk (e : IE)
  | di (e : IE)
  | zip (a b : IL)
  | enum (a : IL)
end
mutual
inductive IS where
  | expr (e : IE)
  | asg (t : IG) (e : IE)
  | set (o i : IE) (e : IE)
  | aug (i : Nat) (o : Bop) (e : IE)
  | augS (o i : IE) (p : Bop) (e : IE)
  | bad
  | ifs (c : IT) (a b : ISs)
  | for (t : IG) (it : II) (b : ISs)
  | whl (c : IT) (b : ISs)
  | ret (e : IE)
  | retN
  | brk | cont | pass
  | rz (i : Nat)
  | dset (d k v : IE)
  | daug (d k : IE) (p : Bop) (e : IE)
  | tryE (b : ISs) (i : Nat) (s : ISs)
  | tryA (b : ISs) (i x : Nat) (s : ISs)
  | lckS (g : IE) (s : IS)
inductive ISs where
  | nil | cons (s : IS) (ss : ISs)
end

/-! ### meaning -/
abbrev Fn := Nat → List W → Hw → Res W
mutual
def asg : IG → W → En → Option En
  | .var i, w, ρ => some (ρ.set i (some w))
  | .tup ts, .tup ws, ρ => if ts.length = ws.length then asgs ts ws ρ else none
  | _, _, _ => none
def asgs : List IG → List W → En → Option En
  | [], _, ρ => some ρ
  | t :: ts, w :: ws, ρ => match asg t w ρ with
    | some ρ' => asgs ts ws ρ'
    | none => none
  | _ :: _, [], _ => none
end
def wipe (ρ : En) : List Nat → En
  | [] => ρ
  | v :: vs => (wipe ρ vs).set v none

/-- the lists that a loop walks must stand as they were -/
abbrev Gu := List (Nat × List W)
def guOk (g : Gu) (h : Hw) : Prop := ∀ p ∈ g, h[p.1]? = some (.lst p.2)
open Classical in
noncomputable def guard {α : Type} (g : Gu) (h : Hw) (r : Res α) : Res α := if guOk g h then r else .err

/-- a comprehension's turns: from the items, the guards; no exception -/
noncomputable def compL (g : IG) (gu : Gu) (test : En → Hw → Res Bool) (elt : En → Hw → Res W) (own : List Nat) (ρ : En) : List W → Hw → List W → Res (List W)
  | [], h, acc => guard gu h (.ok acc h)
  | x :: xs, h, acc => guard gu h (match asg g x (wipe ρ own) with
    | none => .err
    | some ρ' => match test ρ' h with
      | .ok true h1 => match elt ρ' h1 with
        | .ok y h2 => if acc.length < lim then compL g gu test elt own ρ xs h2 (acc ++ [y]) else .err
        | _ => .err
      | .ok false h1 => compL g gu test elt own ρ xs h1 acc
      | _ => .err)

/-- two for: the outer turns; inner: the inner loop, from the list so far -/
noncomputable def compM (g : IG) (gu : Gu) (test : En → Hw → Res Bool) (inner : En → Hw → List W → Res (List W)) (own : List Nat) (ρ : En) : List W → Hw → List W → Res (List W)
  | [], h, acc => guard gu h (.ok acc h)
  | x :: xs, h, acc => guard gu h (match asg g x (wipe ρ own) with
    | none => .err
    | some ρ' => match test ρ' h with
      | .ok true h1 => match inner ρ' h1 acc with
        | .ok acc' h2 => compM g gu test inner own ρ xs h2 acc'
        | _ => .err
      | .ok false h1 => compM g gu test inner own ρ xs h1 acc
      | _ => .err)

/-- a dict comprehension's turns: the dict stands at n -/
noncomputable def compD (g : IG) (gu : Gu) (test : En → Hw → Res Bool) (key val : En → Hw → Res W) (own : List Nat) (n : Nat) (ρ : En) : List W → Hw → Res Unit
  | [], h => guard gu h (.ok () h)
  | x :: xs, h => guard gu h (match asg g x (wipe ρ own) with
    | none => .err
    | some ρ' => match test ρ' h with
      | .ok true h1 => match key ρ' h1 with
        | .ok k h2 => match val ρ' h2 with
          | .ok v h3 => match dputV (.ref n) k v h3 with
            | some h4 => compD g gu test key val own n ρ xs h4
            | none => .err
          | _ => .err
        | _ => .err
      | .ok false h1 => compD g gu test key val own n ρ xs h1
      | _ => .err)
/-- downwards -/
def rngd (lo : Int) (n : Nat) : List W := (List.range n).map fun (i : Nat) => .int (lo - (i : Int))
def rng (lo : Int) (n : Nat) : List W := (List.range n).map fun (i : Nat) => .int (lo + (i : Int))
def guOf (e : W) (xs : List W) : Gu := match e with
  | .ref n => [(n, xs)]
  | _ => []
def isTup : W → Bool
  | .tup _ => true
  | _ => false
/-- the dict that is walked -/
def lkOf (r : Res W) (h : Hw) : Option (Nat × List (Int × W)) := match r with
  | .ok (.ref n) _ => (match h[n]? with | some (.dic false kvs) => some (n, kvs) | _ => none)
  | _ => none
/-- behind the walk -/
def unlk (n : Nat) (h : Hw) : Option Hw := match h[n]? with
  | some (.dic true kvs) => some (h.set n (.dic false kvs))
  | _ => none
def dkV (x : W) (h : Hw) : Option (List W) := match x with
  | .ref n => (match h[n]? with | some (.dic true kvs) => some (kvs.map fun p => .int p.1) | _ => none)
  | _ => none
def diV (x : W) (h : Hw) : Option (List W) := match x with
  | .ref n => (match h[n]? with | some (.dic true kvs) => some (kvs.map fun p => .tup [.int p.1, p.2]) | _ => none)
  | _ => none
mutual
noncomputable def evE (Φ : Fn) : IE → En → Hw → Res W
  | .var i, ρ, h => match ρ[i]? with
    | some (some w) => .ok w h
    | _ => .err
  | .cst w, _, h => .ok w h
  | .bin o a b, ρ, h => (evE Φ a ρ h).bind fun x h => (evE Φ b ρ h).bind fun y h => bop o x y h
  | .neg a, ρ, h => (evE Φ a ρ h).bind fun x h => match x with | .int i => .ok (.int (-i)) h | _ => .err
  | .cmp o a b, ρ, h => (evE Φ a ρ h).bind fun x h => (evE Φ b ρ h).bind fun y h => cmp o x y h
  | .and a b, ρ, h => (evE Φ a ρ h).bind fun x h => match truth x h with
    | some true => evE Φ b ρ h
    | some false => .ok x h
    | none => .err
  | .or a b, ρ, h => (evE Φ a ρ h).bind fun x h => match truth x h with
    | some true => .ok x h
    | some false => evE Φ b ρ h
    | none => .err
  | .not a, ρ, h => (evT Φ a ρ h).bind fun k h => .ok (.bl (!k)) h
  | .ite c a b, ρ, h => (evT Φ c ρ h).bind fun k h => if k = true then evE Φ a ρ h else evE Φ b ρ h
  | .tup es, ρ, h => (evEs Φ es ρ h).bind fun vs h => if vs.length ≤ lim then .ok (.tup vs) h else .err
  | .lst es, ρ, h => (evEs Φ es ρ h).bind fun vs h => if vs.length ≤ lim then .ok (.ref h.length) (h ++ [.lst vs]) else .err
  | .idx a b, ρ, h => (evE Φ a ρ h).bind fun x h => (evE Φ b ρ h).bind fun y h => item x y h
  | .slc a lo hi, ρ, h => (evE Φ a ρ h).bind fun x h => (evP Φ lo ρ h).bind fun l h => (evP Φ hi ρ h).bind fun u h => slice x l u h
  | .call f es, ρ, h => (evEs Φ es ρ h).bind fun vs h => Φ f vs h
  | .bi f es, ρ, h => (evEs Φ es ρ h).bind fun vs h => bi f vs h
  | .bl f l, ρ, h => (evL Φ l ρ h).bind fun q h => bl f q.1 h
  | .mt f o es, ρ, h => (evE Φ o ρ h).bind fun x h => match x with
    | .ref n => (match h[n]? with | some (.lst _) => (evEs Φ es ρ h).bind fun vs h => mt f x vs h | _ => .err)
    | _ => .err
  | .mk l, ρ, h => (evL Φ l ρ h).bind fun q h => .ok (.ref h.length) (h ++ [.lst q.1])
  | .lr1 a, ρ, h => (evE Φ a ρ h).bind fun x h => match x with
    | .int j => if -(2 ^ 62) ≤ j ∧ j ≤ 16777216 then .ok (.ref h.length) (h ++ [.lst (rng 0 (j - 0).toNat)]) else .err
    | _ => .err
  | .lr2 a b, ρ, h => (evE Φ a ρ h).bind fun x h => (evE Φ b ρ h).bind fun y h => match x, y with
    | .int i, .int j => if -(2 ^ 62) ≤ i ∧ i < 2 ^ 62 ∧ -(2 ^ 62) ≤ j ∧ j < 2 ^ 62 ∧ (j - i).toNat ≤ lim then .ok (.ref h.length) (h ++ [.lst (rng i (j - i).toNat)]) else .err
    | _, _ => .err
  | .maxD l j, ρ, h => (evL Φ l ρ h).bind fun q h => maxDf q.1 q.2.2 j h
  | .srt l, ρ, h => (evL Φ l ρ h).bind fun q h => srtf q.1 q.2.2 h
  | .aa k l, ρ, h => (evL Φ l ρ h).bind fun q h => aaf k q.1 q.2.2 h
  | .tr2 a b, ρ, h => (evE Φ a ρ h).bind fun x h => (evE Φ b ρ h).bind fun y h => match x, y with
    | .int i, .int j => if -(2 ^ 62) ≤ i ∧ i < 2 ^ 62 ∧ -(2 ^ 62) ≤ j ∧ j < 2 ^ 62 ∧ (j - i).toNat ≤ lim then .ok (.tup (rng i (j - i).toNat)) h else .err
    | _, _ => .err
  | .glc w, _, h => .ok w h
  | .dnew, ρ, h => .ok (.ref h.length) (h ++ [.dic false []])
  | .dget d k, ρ, h => (evE Φ d ρ h).bind fun x h => (evE Φ k ρ h).bind fun y h => dgetV x y h
  | .dgt d k z, ρ, h => (evE Φ d ρ h).bind fun x h => match x with
    | .ref n => (match h[n]? with
      | some (.dic _ _) => (evE Φ k ρ h).bind fun y h => (evE Φ z ρ h).bind fun z h => dgtV x y z h
      | _ => .err)
    | _ => .err
  | .din b k d, ρ, h => (evE Φ k ρ h).bind fun y h => (evE Φ d ρ h).bind fun x h => dinV b y x h
  | .dmk l, ρ, h => (evL Φ l ρ h).bind fun q h => dmkV q.1 h
  | .dcp e, ρ, h => (evE Φ e ρ h).bind fun x h => dcpV x h
  | .ddl es, ρ, h => (evEs Φ es ρ (h ++ [.dic false []])).bind fun vs h' => ddlV h.length vs h'
  | .dcm g it ts k v own, ρ, h => (evI Φ it ρ h).bind fun q h => (compD g q.2 (fun ρ h => evTs Φ ts ρ h) (fun ρ h => evE Φ k ρ h) (fun ρ h => evE Φ v ρ h) own h.length ρ q.1 (h ++ [.dic false []])).bind fun _ h' => .ok (.ref h.length) h'
  | .dst d k z, ρ, h => (evE Φ d ρ h).bind fun x h => match x with
    | .ref n => (match h[n]? with
      | some (.dic _ _) => (evE Φ k ρ h).bind fun y h => (evE Φ z ρ h).bind fun z h => dstV x y z h
      | _ => .err)
    | _ => .err
  | .dvm d, ρ, h => (evE Φ d ρ h).bind fun x h => dvmV x h
  | .dsr d, ρ, h => (evE Φ d ρ h).bind fun x h => dsrV x h
  | .chn o p a b c, ρ, h => (evE Φ a ρ h).bind fun x h => (evE Φ b ρ h).bind fun y h => (cmp o x y h).bind fun k h => match k with
    | .bl true => (evE Φ c ρ h).bind fun z h => cmp p y z h
    | .bl false => .ok (.bl false) h
    | _ => .err
  | .trv l, ρ, h => (evL Φ l ρ h).bind fun q h => .ok (.tup q.1.reverse) h
  | .tix a b, ρ, h => (evE Φ a ρ h).bind fun x h => match x with
    | .tup xs => (evE Φ b ρ h).bind fun y h => tixV (.tup xs) y h
    | _ => .err
  | .rgN a, ρ, h => (evE Φ a ρ h).bind fun x h => match x with
    | .int j => .ok (.rg 0 j) h
    | _ => .err
  | .lck g e, ρ, h => match lkOf (evE Φ g ρ h) h with
    | some (n, kvs) => (evE Φ e ρ (h.set n (.dic true kvs))).bind fun x h' => match unlk n h' with
      | some h2 => .ok x h2
      | none => .err
    | none => .err
  | .srtD l, ρ, h => (evL Φ l ρ h).bind fun q h => srtDf q.1 q.2.2 h
noncomputable def evEs (Φ : Fn) : IEs → En → Hw → Res (List W)
  | .nil, _, h => .ok [] h
  | .cons e es, ρ, h => (evE Φ e ρ h).bind fun x h => (evEs Φ es ρ h).bind fun xs h => .ok (x :: xs) h
noncomputable def evP (Φ : Fn) : IP → En → Hw → Res (Option Int)
  | .no, _, h => .ok none h
  | .at e, ρ, h => (evE Φ e ρ h).bind fun x h => match x with | .int i => .ok (some i) h | _ => .err
noncomputable def evT (Φ : Fn) : IT → En → Hw → Res Bool
  | .val e, ρ, h => (evE Φ e ρ h).bind fun x h => match truth x h with | some k => .ok k h | none => .err
  | .and a b, ρ, h => (evT Φ a ρ h).bind fun k h => if k = true then evT Φ b ρ h else .ok false h
  | .or a b, ρ, h => (evT Φ a ρ h).bind fun k h => if k = true then .ok true h else evT Φ b ρ h
  | .not a, ρ, h => (evT Φ a ρ h).bind fun k h => .ok (!k) h
/-- the items, and what must stay -/
noncomputable def evL (Φ : Fn) : IL → En → Hw → Res (List W × Gu × Bool)
  | .of e, ρ, h => (evE Φ e ρ h).bind fun x h => match seqOf h x with
    | some xs => .ok (xs, guOf x xs, isTup x) h
    | none => .err
  | .disp es, ρ, h => (evEs Φ es ρ h).bind fun vs h => if vs.length ≤ lim then .ok (vs, [], false) h else .err
  | .comp g it ts elt own, ρ, h => (evI Φ it ρ h).bind fun q h => (compL g q.2 (fun ρ h => evTs Φ ts ρ h) (fun ρ h => evE Φ elt ρ h) own ρ q.1 h []).bind fun ys h => .ok (ys, [], false) h
  | .comp2 g it ts g2 it2 ts2 elt own own2, ρ, h => (evI Φ it ρ h).bind fun q h => (compM g q.2 (fun ρ h => evTs Φ ts ρ h) (fun ρ h acc => (evI Φ it2 ρ h).bind fun q2 h => compL g2 q2.2 (fun ρ h => evTs Φ ts2 ρ h) (fun ρ h => evE Φ elt ρ h) own2 ρ q2.1 h acc) own ρ q.1 h []).bind fun ys h => .ok (ys, [], false) h
noncomputable def evTs (Φ : Fn) : ITs → En → Hw → Res Bool
  | .nil, _, h => .ok true h
  | .cons t ts, ρ, h => (evT Φ t ρ h).bind fun k h => if k = true then evTs Φ ts ρ h else .ok false h
noncomputable def evI (Φ : Fn) : II → En → Hw → Res (List W × Gu)
  | .of l, ρ, h => (evL Φ l ρ h).bind fun q h => .ok (q.1, q.2.1) h
  | .rng1 a, ρ, h => (evE Φ a ρ h).bind fun x h => match x with
    | .int j => if -(2 ^ 62) ≤ j ∧ j < 2 ^ 62 then .ok (rng 0 j.toNat, []) h else .err
    | _ => .err
  | .rng2 a b, ρ, h => (evE Φ a ρ h).bind fun x h => (evE Φ b ρ h).bind fun y h => match x, y with
    | .int i, .int j => if -(2 ^ 62) ≤ i ∧ i < 2 ^ 62 ∧ -(2 ^ 62) ≤ j ∧ j < 2 ^ 62 then .ok (rng i (j - i).toNat, []) h else .err
    | _, _ => .err
  | .rgR a, ρ, h => (evE Φ a ρ h).bind fun x h => match x with
    | .int j => if -(2 ^ 62) ≤ j ∧ j < 2 ^ 62 then .ok (rngd ((j.toNat : Int) - 1) j.toNat, []) h else .err
    | _ => .err
  | .rv l, ρ, h => (evL Φ l ρ h).bind fun q h => .ok (q.1.reverse, q.2.1) h
  | .rng3 a b, ρ, h => (evE Φ a ρ h).bind fun x h => (evE Φ b ρ h).bind fun y h => match x, y with
    | .int i, .int j => if -(2 ^ 62) ≤ i ∧ i < 2 ^ 62 ∧ -(2 ^ 62) ≤ j ∧ j < 2 ^ 62 then .ok (rngd i (i - j).toNat, []) h else .err
    | _, _ => .err
  | .rgv e, ρ, h => (evE Φ e ρ h).bind fun x h => match x with
    | .rg i j => if -(2 ^ 62) ≤ i ∧ i < 2 ^ 62 ∧ -(2 ^ 62) ≤ j ∧ j < 2 ^ 62 then .ok (rng i (j - i).toNat, []) h else .err
    | _ => .err
  | .dk e, ρ, h => (evE Φ e ρ h).bind fun x h => match dkV x h with
    | some xs => .ok (xs, []) h
    | none => .err
  | .di e, ρ, h => (evE Φ e ρ h).bind fun x h => match diV x h with
    | some xs => .ok (xs, []) h
    | none => .err
  | .zip a b, ρ, h => (evL Φ a ρ h).bind fun p h => (evL Φ b ρ h).bind fun q h => .ok ((p.1.zip q.1).map fun z => .tup [z.1, z.2], p.2.1 ++ q.2.1) h
  | .enum a, ρ, h => (evL Φ a ρ h).bind fun p h => .ok (((List.range p.1.length).zip p.1).map fun z => .tup [.int (z.1 : Nat), z.2], p.2.1) h
end

/-- how a statement ends -/
inductive Fl where
  | next | brk | cont | ret (w : W) | rz (e : Ex)
/-- a statement's result: the flow, the names -/
abbrev Rs := Res (Fl × En)
def Res.st {α : Type} : Res α → En → (α → Hw → Rs) → Rs
  | .ok a h, _, f => f a h
  | .exc e h, ρ, _ => .ok (.rz e, ρ) h
  | .err, _, _ => .err
@[simp] theorem Res.st_ok {α : Type} (a : α) (h : Hw) (ρ : En) (f : α → Hw → Rs) : (Res.ok a h).st ρ f = f a h := rfl

noncomputable def forL (t : IG) (gu : Gu) (body : En → Hw → Rs) : List W → En → Hw → Rs
  | [], ρ, h => guard gu h (.ok (.next, ρ) h)
  | x :: xs, ρ, h => guard gu h (match asg t x ρ with
    | none => .err
    | some ρ' => match body ρ' h with
      | .ok (.next, ρ) h => forL t gu body xs ρ h
      | .ok (.cont, ρ) h => forL t gu body xs ρ h
      | .ok (.brk, ρ) h => .ok (.next, ρ) h
      | .ok (.ret w, ρ) h => .ok (.ret w, ρ) h
      | .ok (.rz e, ρ) h => .ok (.rz e, ρ) h
      | _ => .err)

/-- n turns of a while loop at most -/
noncomputable def whlN (c : En → Hw → Res Bool) (body : En → Hw → Rs) : Nat → En → Hw → Option Rs
  | 0, _, _ => none
  | n + 1, ρ, h => match c ρ h with
    | .ok true h1 => match body ρ h1 with
      | .ok (.next, ρ') h2 => whlN c body n ρ' h2
      | .ok (.cont, ρ') h2 => whlN c body n ρ' h2
      | .ok (.brk, ρ') h2 => some (.ok (.next, ρ') h2)
      | .ok (.ret w, ρ') h2 => some (.ok (.ret w, ρ') h2)
      | .ok (.rz e, ρ') h2 => some (.ok (.rz e, ρ') h2)
      | _ => some .err
    | .ok false h1 => some (.ok (.next, ρ) h1)
    | .exc e h1 => some (.ok (.rz e, ρ) h1)
    | .err => some .err
open Classical in
noncomputable def whl (c : En → Hw → Res Bool) (body : En → Hw → Rs) (ρ : En) (h : Hw) : Rs :=
  if x : ∃ n r, whlN c body n ρ h = some r then x.choose_spec.choose else .err

mutual
noncomputable def evS (Φ : Fn) : IS → En → Hw → Rs
  | .expr e, ρ, h => (evE Φ e ρ h).st ρ fun _ h => .ok (.next, ρ) h
  | .asg t e, ρ, h => (evE Φ e ρ h).st ρ fun x h => match asg t x ρ with
    | some ρ' => .ok (.next, ρ') h
    | none => .err
  | .set o i e, ρ, h => (evE Φ e ρ h).st ρ fun v h => (evE Φ o ρ h).st ρ fun x h => (evE Φ i ρ h).st ρ fun y h => match setIt x y v h with
    | some h' => .ok (.next, ρ) h'
    | none => .err
  | .aug i o e, ρ, h => match ρ[i]? with
    | some (some x) => (evE Φ e ρ h).st ρ fun y h => match o, x, y with
      | .add, .int a, .int b => .ok (.next, ρ.set i (some (.int (a + b)))) h
      | .sub, .int a, .int b => .ok (.next, ρ.set i (some (.int (a - b)))) h
      | _, _, _ => .err
    | _ => .err
  | .augS o i p e, ρ, h => (evE Φ o ρ h).st ρ fun x h => (evE Φ i ρ h).st ρ fun y h => (itemL x y h).st ρ fun w h => (evE Φ e ρ h).st ρ fun v h => match augO p w v with
    | some z => (match setIt x y z h with
      | some h' => .ok (.next, ρ) h'
      | none => .err)
    | none => .err
  | .bad, _, _ => .err
  | .ifs c a b, ρ, h => (evT Φ c ρ h).st ρ fun k h => if k = true then evSs Φ a ρ h else evSs Φ b ρ h
  | .for t it b, ρ, h => (evI Φ it ρ h).st ρ fun q h => forL t q.2 (fun ρ h => evSs Φ b ρ h) q.1 ρ h
  | .whl c b, ρ, h => whl (fun ρ h => evT Φ c ρ h) (fun ρ h => evSs Φ b ρ h) ρ h
  | .ret e, ρ, h => (evE Φ e ρ h).st ρ fun x h => .ok (.ret x, ρ) h
  | .retN, ρ, h => .ok (.ret .non, ρ) h
  | .brk, ρ, h => .ok (.brk, ρ) h
  | .cont, ρ, h => .ok (.cont, ρ) h
  | .pass, ρ, h => .ok (.next, ρ) h
  | .dset d k v, ρ, h => (evE Φ v ρ h).st ρ fun v h => (evE Φ d ρ h).st ρ fun x h => (evE Φ k ρ h).st ρ fun y h => match dputV x y v h with
    | some h' => .ok (.next, ρ) h'
    | none => .err
  | .daug d k p e, ρ, h => (evE Φ d ρ h).st ρ fun x h => (evE Φ k ρ h).st ρ fun y h => (dgetV x y h).st ρ fun w h => (evE Φ e ρ h).st ρ fun v h => match augO p w v with
    | some z => (match dputV x y z h with
      | some h' => .ok (.next, ρ) h'
      | none => .err)
    | none => .err
  | .rz i, ρ, h => .ok (.rz ⟨i, []⟩, ρ) h
  | .lckS g s, ρ, h => match lkOf (evE Φ g ρ h) h with
    | some (n, kvs) => (match evS Φ s ρ (h.set n (.dic true kvs)) with
      | .ok (.rz e, ρ') h' => .ok (.rz e, ρ') h'
      | .ok (f, ρ') h' => (match unlk n h' with
        | some h2 => .ok (f, ρ') h2
        | none => .err)
      | _ => .err)
    | none => .err
  | .tryE b i s, ρ, h => match evSs Φ b ρ h with
    | .ok (.rz e, ρ') h' => if e.cls = i ∧ e.args = [] then evSs Φ s ρ' h' else .err
    | .ok (f, ρ') h' => .ok (f, ρ') h'
    | _ => .err
  | .tryA b i x s, ρ, h => match evSs Φ b ρ h with
    | .ok (.rz e, ρ') h' => if (e.cls = i ∧ e.args = []) ∧ x < ρ'.length then (match evSs Φ s (ρ'.set x none) h' with
      | .ok (f, ρ2) h2 => .ok (f, ρ2.set x none) h2
      | _ => .err) else .err
    | .ok (f, ρ') h' => .ok (f, ρ') h'
    | _ => .err
noncomputable def evSs (Φ : Fn) : ISs → En → Hw → Rs
  | .nil, ρ, h => .ok (.next, ρ) h
  | .cons s ss, ρ, h => match evS Φ s ρ h with
    | .ok (.next, ρ) h => evSs Φ ss ρ h
    | .ok (f, ρ) h => .ok (f, ρ) h
    | _ => .err
end

/-! ### calls of defs -/
mutual
def W.blw (n : Nat) : W → Prop
  | .ref k => k < n
  | .tup xs => W.blws n xs
  | .fl xs => W.blws n xs
  | _ => True
def W.blws (n : Nat) : List W → Prop
  | [] => True
  | x :: xs => W.blw n x ∧ W.blws n xs
end
def O.blw (n : Nat) : O → Prop
  | .lst xs => W.blws n xs
  | .dic _ kvs => W.blws n (kvs.map (·.2))
  | .dit _ kvs => W.blws n (kvs.map (·.2))
/-- the elder objects know nothing of the younger ones -/
def OldOk (h h' : Hw) : Prop := h.length ≤ h'.length ∧ ∀ i o, i < h.length → h'[i]? = some o → h[i]? = some o ∨ o.blw h.length
open Classical in
/-- behind a call what nobody sees is forgotten -/
noncomputable def tidy (h : Hw) (w : W) (h' : Hw) : Res W :=
  if OldOk h h' then
    if w.blw h.length then .ok w (h'.take h.length)
    else match w with
      | .ref p => match h'[p]? with
        | some o => if o.blw h.length then .ok (.ref h.length) (h'.take h.length ++ [o]) else .ok w h'
        | none => .ok w h'
      | _ => .ok w h'
  else .ok w h'

structure Df where
  np : Nat
  ns : Nat
  body : ISs

noncomputable def runDf (Φ : Fn) (d : Df) (vs : List W) (h : Hw) : Res W :=
  if vs.length = d.np then
    match evSs Φ d.body (vs.map some ++ List.replicate (d.ns - d.np) none) h with
    | .ok (.ret w, _) h' => tidy h w h'
    | .ok (.next, _) h' => tidy h .non h'
    | .ok (.rz e, _) h' => .exc e h'
    | _ => .err
  else .err
noncomputable def PhiN (ds : List Df) : Nat → Fn
  | 0 => fun _ _ _ => .err
  | k + 1 => fun f vs h => match ds[f]? with
    | some d => runDf (PhiN ds k) d vs h
    | none => .err
termination_by k => k
theorem PhiN_z {ds : List Df} {f : Nat} {vs : List W} {h : Hw} : PhiN ds 0 f vs h = .err := by rw [PhiN]
theorem PhiN_s {ds : List Df} {k f : Nat} {vs : List W} {h : Hw} {d : Df} (e : ds[f]? = some d) : PhiN ds (k + 1) f vs h = runDf (PhiN ds k) d vs h := by
  rw [PhiN]
  show (match ds[f]? with | some d => runDf (PhiN ds k) d vs h | none => .err) = _
  rw [e]
end Ev

set_option Elab.async false
set_option linter.all false
set_option maxRecDepth 100000
/-! Ev2: how the values and the heap lie in the hand layer's abstract heap; steps; readings. -/
namespace Ev
open PySem PySem.Spec PyProof.Rows L2

/-! ### representation -/
def ConT (K : PySem.W.Frag) (a : Addr) (xs : List V) : Prop :=
  ∃ (o : Obj) (its : Array Value) (n : Nat), K.lookup a = some o ∧ o.cls = .type "tuple" ∧ o.dict = none ∧ o.data = .seq its n ∧ its.size ≤ sizeLine ∧ Vals xs its.toList
def ConL (K : PySem.W.Frag) (a : Addr) (xs : List V) : Prop :=
  ∃ (o : Obj) (its : Array Value) (n : Nat), K.lookup a = some o ∧ o.cls = .type "list" ∧ o.dict = none ∧ o.data = .seq its n ∧ its.size ≤ sizeLine ∧ Vals xs its.toList
/-- a tuple, a frozen list: it stays -/
def StT (K : PySem.W.Frag) (H : Hp) (m : List Addr) (a : Addr) (xs : List V) : Prop := ((∃ o, H a = some (.frz o (.tup xs)) ∧ o.dict = none) ∧ a ∉ m) ∨ ConT K a xs
/-- a frozen list, a list of the text -/
def StL (K : PySem.W.Frag) (H : Hp) (m : List Addr) (a : Addr) (xs : List V) : Prop := ((∃ o, H a = some (.frz o (.lst xs))) ∧ a ∉ m) ∨ ConL K a xs
/-- a list in the air: nobody else sees it -/
def Air (H : Hp) (m : List Addr) (a : Addr) (xs : List V) : Prop := H a = some (.lst xs) ∧ a ∉ m
theorem StT.sq {K : PySem.W.Frag} {H : Hp} {m : List Addr} {a : Addr} {xs : List V} (h : StT K H m a xs) : SqT K H a xs := h.elim (fun ⟨⟨o, x, _⟩, _⟩ => .inl (.inr ⟨o, x⟩)) fun ⟨o, its, n, e, c, _, d⟩ => .inr ⟨o, its, n, e, c, d⟩
theorem StL.sq {K : PySem.W.Frag} {H : Hp} {m : List Addr} {a : Addr} {xs : List V} (h : StL K H m a xs) : SqL K H a xs := h.elim (fun x => .inl (.inr x.1)) .inr

mutual
def Rep (K : PySem.W.Frag) (H : Hp) (m : List Addr) : W → V → Prop
  | .non, v => v = .non
  | .bl b, v => v = .bl b
  | .int i, v => v = .int i
  | .str x, v => v = .str x
  | .tup xs, v => ∃ a vs, v = .ref a ∧ StT K H m a vs ∧ RepL K H m xs vs
  | .fl xs, v => ∃ a vs, v = .ref a ∧ StL K H m a vs ∧ RepL K H m xs vs
  | .ref n, v => ∃ a, m[n]? = some a ∧ v = .ref a
  | .rg i j, v => ∃ a, v = .ref a ∧ H a = some (.rng i j) ∧ a ∉ m
def RepL (K : PySem.W.Frag) (H : Hp) (m : List Addr) : List W → List V → Prop
  | [], vs => vs = []
  | x :: xs, vs => ∃ v r, vs = v :: r ∧ Rep K H m x v ∧ RepL K H m xs r
end
/-- the entries of a dict with whole keys -/
def zK (ks : List Int) (us : List V) : List (Key × V) := (ks.zip us).map fun z => (.inl z.1, z.2)
/-- as it stands, or locked -/
def Lk (b : Bool) (H : Hp) (a : Addr) (o : HO) : Prop := match b with
  | false => H a = some o
  | true => ∃ od, H a = some (.frz od o)
theorem Lk.to {b : Bool} {H H' : Hp} {a : Addr} {o : HO} (e : H' a = H a) (l : Lk b H a o) : Lk b H' a o := by
  cases b with
  | false => exact e.trans l
  | true => obtain ⟨od, l⟩ := l; exact ⟨od, e.trans l⟩
theorem Lk.some {b : Bool} {H : Hp} {a : Addr} {o : HO} (l : Lk b H a o) : ∃ u, H a = some u ∧ (u = o ∨ ∃ od, u = .frz od o) := by
  cases b with
  | false => exact ⟨_, l, .inl rfl⟩
  | true => obtain ⟨od, l⟩ := l; exact ⟨_, l, .inr ⟨od, rfl⟩⟩
theorem Lk.rd {b : Bool} {H : Hp} {a : Addr} {o : HO} (l : Lk b H a o) : Rd H a o := by
  cases b with
  | false => exact .inl l
  | true => exact .inr l
def RepO (K : PySem.W.Frag) (H : Hp) (m : List Addr) (a : Addr) : O → Prop
  | .lst xs => ∃ vs, H a = some (.lst vs) ∧ RepL K H m xs vs
  | .dic b kvs => ∃ us, Lk b H a (.dK (zK (kvs.map (·.1)) us)) ∧ RepL K H m (kvs.map (·.2)) us ∧ NdD kvs
  | .dit b kvs => ∃ us, Lk b H a (.dT ((kvs.map (·.1)).zip us)) ∧ RepL K H m (kvs.map (·.2)) us ∧ (kvs.map (·.1)).Nodup
/-- what may change -/
def MutO : HO → Prop
  | .lst _ => True
  | .dK _ => True
  | .dT _ => True
  | .frz _ (.dK _) => True
  | .frz _ (.dT _) => True
  | _ => False
structure RelH (K : PySem.W.Frag) (m : List Addr) (H : Hp) (h : Hw) : Prop where
  nd : m.Nodup
  len : m.length = h.length
  obj : ∀ (n : Nat) (a : Addr) (o : O), m[n]? = some a → h[n]? = some o → RepO K H m a o
def RepS (K : PySem.W.Frag) (H : Hp) (m : List Addr) : En → L2.St → Prop
  | [], σ => σ = []
  | none :: ρ, σ => ∃ x r, σ = x :: r ∧ RepS K H m ρ r
  | some w :: ρ, σ => ∃ v r, σ = some v :: r ∧ Rep K H m w v ∧ RepS K H m ρ r
/-- a step from (m, H) to (m', H') -/
structure Nx (m : List Addr) (H : Hp) (m' : List Addr) (H' : Hp) : Prop where
  pre : ∃ r, m' = m ++ r
  fr : ∀ a o, H a = some o → a ∉ m → H' a = some o
  new : ∀ a ∈ m', a ∉ m → H a = none
  kd : ∀ a xs, H a = some (.lst xs) → ∃ ys, H' a = some (.lst ys)
  fz : ∀ a o u, H a = some (.frz o u) → H' a = some (.frz o u)
section
variable {K : PySem.W.Frag} {m m' m1 m2 : List Addr} {H H' H1 H2 : Hp} {h h' h1 : Hw} {a : Addr}
theorem Nx.refl : Nx m H m H := ⟨⟨[], by simp⟩, fun _ _ e _ => e, fun _ h1 h2 => absurd h1 h2, fun _ xs e => ⟨xs, e⟩, fun _ _ _ e => e⟩
theorem Nx.sub (x : Nx m H m' H') {b : Addr} (h : b ∈ m) : b ∈ m' := by
  obtain ⟨r, rfl⟩ := x.pre
  exact List.mem_append_left _ h
theorem Nx.out (x : Nx m H m' H') {b : Addr} {o : HO} (e : H b = some o) (h : b ∉ m) : b ∉ m' := fun z => by
  have := x.new b z h
  rw [e] at this; cases this
theorem Nx.trans (x : Nx m H m1 H1) (y : Nx m1 H1 m2 H2) : Nx m H m2 H2 where
  pre := by
    obtain ⟨r, rfl⟩ := x.pre
    obtain ⟨t, rfl⟩ := y.pre
    exact ⟨r ++ t, by rw [List.append_assoc]⟩
  fr := fun b o e hb => y.fr b o (x.fr b o e hb) (x.out e hb)
  new := fun b hb hm => by
    by_cases h1 : b ∈ m1
    · exact x.new b h1 hm
    · cases e : H b with
      | none => rfl
      | some o =>
        have := y.new b hb h1
        rw [x.fr b o e hm] at this; cases this
  kd := fun a xs e => by
    obtain ⟨ys, f⟩ := x.kd a xs e
    exact y.kd a ys f
  fz := fun a o u e => y.fz a o u (x.fz a o u e)
theorem Nx.get (x : Nx m H m' H') {n : Nat} (e : m[n]? = some a) : m'[n]? = some a := by
  obtain ⟨r, rfl⟩ := x.pre
  rw [List.getElem?_append_left (List.getElem?_eq_some_iff.mp e).1]; exact e
theorem Nx.rd (x : Nx m H m' H') {u : HO} (r : Rd H a u) (ha : a ∉ m) : Rd H' a u := by
  rcases r with r | ⟨o, r⟩
  · exact .inl (x.fr _ _ r ha)
  · exact .inr ⟨o, x.fr _ _ r ha⟩
theorem Nx.rdo (x : Nx m H m' H') {u : HO} (r : Rd H a u) (ha : a ∉ m) : a ∉ m' := by
  rcases r with r | ⟨o, r⟩
  · exact x.out r ha
  · exact x.out r ha
theorem StT.mono (x : Nx m H m' H') {vs : List V} (s : StT K H m a vs) : StT K H' m' a vs :=
  s.elim (fun ⟨⟨o, z, d⟩, n⟩ => .inl ⟨⟨o, x.fr _ _ z n, d⟩, x.out z n⟩) .inr
theorem StL.mono (x : Nx m H m' H') {vs : List V} (s : StL K H m a vs) : StL K H' m' a vs :=
  s.elim (fun ⟨⟨o, z⟩, n⟩ => .inl ⟨⟨o, x.fr _ _ z n⟩, x.out z n⟩) .inr
theorem Air.mono (x : Nx m H m' H') {vs : List V} (s : Air H m a vs) : Air H' m' a vs := ⟨x.fr _ _ s.1 s.2, x.out s.1 s.2⟩
mutual
theorem Rep.mono (x : Nx m H m' H') : ∀ {w : W} {v : V}, Rep K H m w v → Rep K H' m' w v
  | .non, _, r => by unfold Rep at r ⊢; exact r
  | .bl _, _, r => by unfold Rep at r ⊢; exact r
  | .int _, _, r => by unfold Rep at r ⊢; exact r
  | .str _, _, r => by unfold Rep at r ⊢; exact r
  | .tup xs, _, r => by
    unfold Rep at r ⊢
    obtain ⟨a, vs, e, s, q⟩ := r
    exact ⟨a, vs, e, s.mono x, RepL.mono x q⟩
  | .fl xs, _, r => by
    unfold Rep at r ⊢
    obtain ⟨a, vs, e, s, q⟩ := r
    exact ⟨a, vs, e, s.mono x, RepL.mono x q⟩
  | .ref n, _, r => by
    unfold Rep at r ⊢
    obtain ⟨a, e, q⟩ := r
    exact ⟨a, x.get e, q⟩
  | .rg _ _, _, r => by
    unfold Rep at r ⊢
    obtain ⟨a, e, q, n⟩ := r
    exact ⟨a, e, x.fr _ _ q n, x.out q n⟩
theorem RepL.mono (x : Nx m H m' H') : ∀ {ws : List W} {vs : List V}, RepL K H m ws vs → RepL K H' m' ws vs
  | [], _, r => by unfold RepL at r ⊢; exact r
  | w :: ws, _, r => by
    unfold RepL at r ⊢
    obtain ⟨v, q, e, r1, r2⟩ := r
    exact ⟨v, q, e, Rep.mono x r1, RepL.mono x r2⟩
end
theorem RepS.mono (x : Nx m H m' H') : ∀ {ρ : En} {σ : L2.St}, RepS K H m ρ σ → RepS K H' m' ρ σ
  | [], _, r => by unfold RepS at r ⊢; exact r
  | none :: ρ, _, r => by
    unfold RepS at r ⊢
    obtain ⟨y, q, e, r2⟩ := r
    exact ⟨y, q, e, RepS.mono x r2⟩
  | some w :: ρ, _, r => by
    unfold RepS at r ⊢
    obtain ⟨v, q, e, r1, r2⟩ := r
    exact ⟨v, q, e, r1.mono x, RepS.mono x r2⟩
theorem RepL.len : ∀ {ws : List W} {vs : List V}, RepL K H m ws vs → ws.length = vs.length
  | [], _, r => by unfold RepL at r; subst r; rfl
  | w :: ws, _, r => by
    unfold RepL at r
    obtain ⟨v, q, rfl, r1, r2⟩ := r
    simp [RepL.len r2]
theorem RepL.nil : RepL K H m [] [] := by unfold RepL; rfl
theorem RepL.cons {w : W} {v : V} {ws : List W} {vs : List V} (a : Rep K H m w v) (b : RepL K H m ws vs) : RepL K H m (w :: ws) (v :: vs) := by unfold RepL; exact ⟨v, vs, rfl, a, b⟩
theorem RepL.one {w : W} {vs : List V} (r : RepL K H m [w] vs) : ∃ v, vs = [v] ∧ Rep K H m w v := by
  unfold RepL at r
  obtain ⟨v, q, rfl, r1, r2⟩ := r
  unfold RepL at r2; subst r2
  exact ⟨v, rfl, r1⟩
theorem RepL.two {w u : W} {vs : List V} (r : RepL K H m [w, u] vs) : ∃ v z, vs = [v, z] ∧ Rep K H m w v ∧ Rep K H m u z := by
  unfold RepL at r
  obtain ⟨v, q, rfl, r1, r2⟩ := r
  obtain ⟨z, rfl, r3⟩ := r2.one
  exact ⟨v, z, rfl, r1, r3⟩
theorem RepL.uncons {w : W} {ws : List W} {vs : List V} (r : RepL K H m (w :: ws) vs) : ∃ v q, vs = v :: q ∧ Rep K H m w v ∧ RepL K H m ws q := by
  unfold RepL at r; exact r
theorem RepL.get : ∀ {ws : List W} {vs : List V} {i : Nat} {w : W}, RepL K H m ws vs → ws[i]? = some w → ∃ v, vs[i]? = some v ∧ Rep K H m w v
  | [], _, _, _, _, e => by simp at e
  | x :: xs, _, 0, w, r, e => by
    obtain ⟨v, q, rfl, r1, r2⟩ := r.uncons
    simp at e; subst e
    exact ⟨v, rfl, r1⟩
  | x :: xs, _, i + 1, w, r, e => by
    obtain ⟨v, q, rfl, r1, r2⟩ := r.uncons
    obtain ⟨u, e2, r3⟩ := RepL.get (i := i) r2 (by simpa using e)
    exact ⟨u, by simpa using e2, r3⟩
theorem RepL.getV : ∀ {ws : List W} {vs : List V} {i : Nat} {v : V}, RepL K H m ws vs → vs[i]? = some v → ∃ w, ws[i]? = some w ∧ Rep K H m w v := fun {ws vs i v} r e => by
  have hl := r.len
  have hi : i < ws.length := by rw [hl]; exact (List.getElem?_eq_some_iff.mp e).1
  obtain ⟨u, e2, r2⟩ := r.get (List.getElem?_eq_getElem hi)
  rw [e] at e2; cases e2
  exact ⟨_, List.getElem?_eq_getElem hi, r2⟩
theorem RepL.append : ∀ {ws us : List W} {vs zs : List V}, RepL K H m ws vs → RepL K H m us zs → RepL K H m (ws ++ us) (vs ++ zs)
  | [], _, _, _, r, s => by unfold RepL at r; subst r; exact s
  | w :: ws, _, _, _, r, s => by
    obtain ⟨v, q, rfl, r1, r2⟩ := r.uncons
    exact .cons r1 (RepL.append r2 s)
theorem RepL.take : ∀ {ws : List W} {vs : List V} (n : Nat), RepL K H m ws vs → RepL K H m (ws.take n) (vs.take n)
  | _, _, 0, _ => by simp; exact .nil
  | [], _, n + 1, r => by unfold RepL at r; subst r; exact .nil
  | w :: ws, _, n + 1, r => by
    obtain ⟨v, q, rfl, r1, r2⟩ := r.uncons
    exact .cons r1 (RepL.take n r2)
theorem RepL.drop : ∀ {ws : List W} {vs : List V} (n : Nat), RepL K H m ws vs → RepL K H m (ws.drop n) (vs.drop n)
  | _, _, 0, r => r
  | [], _, n + 1, r => by unfold RepL at r; subst r; exact .nil
  | w :: ws, _, n + 1, r => by
    obtain ⟨v, q, rfl, r1, r2⟩ := r.uncons
    exact RepL.drop n r2
theorem RepL.set {w : W} {v : V} (z : Rep K H m w v) : ∀ {ws : List W} {vs : List V} (n : Nat), RepL K H m ws vs → RepL K H m (ws.set n w) (vs.set n v)
  | [], _, _, r => by unfold RepL at r; subst r; exact .nil
  | _ :: _, _, 0, r => by
    obtain ⟨v, q, rfl, r1, r2⟩ := r.uncons
    exact .cons z r2
  | _ :: _, _, n + 1, r => by
    obtain ⟨v, q, rfl, r1, r2⟩ := r.uncons
    exact .cons r1 (RepL.set z n r2)
theorem RepL.eraseIdx : ∀ {ws : List W} {vs : List V} (n : Nat), RepL K H m ws vs → RepL K H m (ws.eraseIdx n) (vs.eraseIdx n)
  | [], _, _, r => by unfold RepL at r; subst r; exact .nil
  | _ :: _, _, 0, r => by
    obtain ⟨v, q, rfl, r1, r2⟩ := r.uncons
    exact r2
  | _ :: _, _, n + 1, r => by
    obtain ⟨v, q, rfl, r1, r2⟩ := r.uncons
    exact .cons r1 (RepL.eraseIdx n r2)
theorem RepL.rep {ws : List W} {vs : List V} (r : RepL K H m ws vs) : ∀ k : Nat, RepL K H m (List.replicate k ws).flatten (List.replicate k vs).flatten
  | 0 => .nil
  | k + 1 => by
    rw [List.replicate_succ, List.replicate_succ, List.flatten_cons, List.flatten_cons]
    exact r.append (RepL.rep r k)
theorem RepL.dropLast {ws : List W} {vs : List V} (r : RepL K H m ws vs) : RepL K H m ws.dropLast vs.dropLast := by
  rw [List.dropLast_eq_take, List.dropLast_eq_take, r.len]; exact r.take _
theorem RepS.len : ∀ {ρ : En} {σ : L2.St}, RepS K H m ρ σ → ρ.length = σ.length
  | [], _, r => by unfold RepS at r; subst r; rfl
  | none :: ρ, _, r => by
    unfold RepS at r
    obtain ⟨y, q, rfl, r2⟩ := r
    simp [RepS.len r2]
  | some w :: ρ, _, r => by
    unfold RepS at r
    obtain ⟨y, q, rfl, _, r2⟩ := r
    simp [RepS.len r2]
theorem RepS.get : ∀ {ρ : En} {σ : L2.St} {i : Nat} {w : W}, RepS K H m ρ σ → ρ[i]? = some (some w) → ∃ v, σ[i]? = some (some v) ∧ Rep K H m w v
  | [], _, _, _, _, e => by simp at e
  | x :: xs, _, 0, w, r, e => by
    simp at e; subst e
    unfold RepS at r
    obtain ⟨v, q, rfl, r1, r2⟩ := r
    exact ⟨v, rfl, r1⟩
  | none :: xs, _, i + 1, w, r, e => by
    unfold RepS at r
    obtain ⟨y, q, rfl, r2⟩ := r
    obtain ⟨u, e2, r3⟩ := RepS.get (i := i) r2 (by simpa using e)
    exact ⟨u, by simpa using e2, r3⟩
  | some _ :: xs, _, i + 1, w, r, e => by
    unfold RepS at r
    obtain ⟨y, q, rfl, _, r2⟩ := r
    obtain ⟨u, e2, r3⟩ := RepS.get (i := i) r2 (by simpa using e)
    exact ⟨u, by simpa using e2, r3⟩
theorem RepS.setS {w : W} {v : V} (z : Rep K H m w v) : ∀ {ρ : En} {σ : L2.St} (i : Nat), RepS K H m ρ σ → RepS K H m (ρ.set i (some w)) (σ.set i (some v))
  | [], _, _, r => by unfold RepS at r; subst r; show RepS K H m [] []; unfold RepS; rfl
  | none :: ρ, _, 0, r => by
    unfold RepS at r
    obtain ⟨y, q, rfl, r2⟩ := r
    show RepS K H m (some w :: ρ) (some v :: q)
    unfold RepS; exact ⟨v, q, rfl, z, r2⟩
  | some _ :: ρ, _, 0, r => by
    unfold RepS at r
    obtain ⟨y, q, rfl, _, r2⟩ := r
    show RepS K H m (some w :: ρ) (some v :: q)
    unfold RepS; exact ⟨v, q, rfl, z, r2⟩
  | none :: ρ, _, i + 1, r => by
    unfold RepS at r
    obtain ⟨y, q, rfl, r2⟩ := r
    show RepS K H m (none :: ρ.set i (some w)) (y :: q.set i (some v))
    unfold RepS; exact ⟨_, _, rfl, RepS.setS z i r2⟩
  | some u :: ρ, _, i + 1, r => by
    unfold RepS at r
    obtain ⟨y, q, rfl, r1, r2⟩ := r
    show RepS K H m (some u :: ρ.set i (some w)) (some y :: q.set i (some v))
    unfold RepS; exact ⟨_, _, rfl, r1, RepS.setS z i r2⟩
theorem RepS.setN {y : Option V} : ∀ {ρ : En} {σ : L2.St} (i : Nat), RepS K H m ρ σ → RepS K H m (ρ.set i none) (σ.set i y)
  | [], _, _, r => by unfold RepS at r; subst r; show RepS K H m [] []; unfold RepS; rfl
  | none :: ρ, _, 0, r => by
    unfold RepS at r
    obtain ⟨y, q, rfl, r2⟩ := r
    show RepS K H m (none :: ρ) (_ :: q)
    unfold RepS; exact ⟨_, q, rfl, r2⟩
  | some _ :: ρ, _, 0, r => by
    unfold RepS at r
    obtain ⟨y, q, rfl, _, r2⟩ := r
    show RepS K H m (none :: ρ) (_ :: q)
    unfold RepS; exact ⟨_, q, rfl, r2⟩
  | none :: ρ, _, i + 1, r => by
    unfold RepS at r
    obtain ⟨y, q, rfl, r2⟩ := r
    show RepS K H m (none :: ρ.set i none) (y :: q.set i _)
    unfold RepS; exact ⟨_, _, rfl, RepS.setN i r2⟩
  | some u :: ρ, _, i + 1, r => by
    unfold RepS at r
    obtain ⟨y, q, rfl, r1, r2⟩ := r
    show RepS K H m (some u :: ρ.set i none) (some y :: q.set i _)
    unfold RepS; exact ⟨_, _, rfl, r1, RepS.setN i r2⟩
theorem RepS.wipe {ρ : En} {σ : L2.St} (r : RepS K H m ρ σ) : ∀ vs : List Nat, RepS K H m (Ev.wipe ρ vs) (L2.wipe σ vs)
  | [] => r
  | v :: vs => by
    show RepS K H m ((Ev.wipe ρ vs).set v none) ((L2.wipe σ vs).set v none)
    exact (RepS.wipe r vs).setN v
theorem RepS.start : ∀ {ws : List W} {vs : List V} (n : Nat), RepL K H m ws vs → RepS K H m (ws.map some ++ List.replicate n none) (vs.map some ++ List.replicate n none)
  | [], _, n, r => by
    unfold RepL at r; subst r
    show RepS K H m (List.replicate n none) (List.replicate n none)
    induction n with
    | zero => show RepS K H m [] []; unfold RepS; rfl
    | succ n ih => rw [List.replicate_succ, List.replicate_succ]; unfold RepS; exact ⟨_, _, rfl, ih⟩
  | w :: ws, _, n, r => by
    obtain ⟨v, q, rfl, r1, r2⟩ := r.uncons
    show RepS K H m (some w :: (ws.map some ++ List.replicate n none)) (some v :: (q.map some ++ List.replicate n none))
    unfold RepS; exact ⟨_, _, rfl, r1, RepS.start n r2⟩

/-! ### heaps -/
theorem RelH.hit (x : RelH K m H h) {b : Addr} (hb : b ∈ m) : ∃ o, H b = some o ∧ MutO o := by
  obtain ⟨n, hn, e⟩ := List.mem_iff_getElem.mp hb
  have hn2 : n < h.length := by rw [← x.len]; exact hn
  have q := x.obj n b h[n] (by rw [List.getElem?_eq_getElem hn, e]) (List.getElem?_eq_getElem hn2)
  cases eo : h[n] with
  | lst xs =>
    rw [eo] at q
    obtain ⟨vs, e, _⟩ := q
    exact ⟨_, e, trivial⟩
  | dic b _ =>
    rw [eo] at q
    obtain ⟨us, e, _⟩ := q
    obtain ⟨u, e, z⟩ := e.some
    refine ⟨u, e, ?_⟩
    rcases z with rfl | ⟨_, rfl⟩ <;> exact trivial
  | dit b _ =>
    rw [eo] at q
    obtain ⟨us, e, _⟩ := q
    obtain ⟨u, e, z⟩ := e.some
    refine ⟨u, e, ?_⟩
    rcases z with rfl | ⟨_, rfl⟩ <;> exact trivial
theorem RelH.free (x : RelH K m H h) {b : Addr} (e : H b = none) : b ∉ m := fun hb => by
  obtain ⟨vs, q, _⟩ := x.hit hb
  rw [e] at q; cases q
theorem RelH.at (x : RelH K m H h) {n : Nat} {o : O} (e : h[n]? = some o) : ∃ b, m[n]? = some b ∧ RepO K H m b o := by
  have hn : n < m.length := by rw [x.len]; exact (List.getElem?_eq_some_iff.mp e).1
  exact ⟨m[n], List.getElem?_eq_getElem hn, x.obj n _ o (List.getElem?_eq_getElem hn) e⟩
theorem RelH.lst (x : RelH K m H h) {n : Nat} {xs : List W} (e : h[n]? = some (.lst xs)) {b : Addr} (q : m[n]? = some b) : ∃ vs, H b = some (.lst vs) ∧ RepL K H m xs vs := x.obj n b _ q e
theorem RepO.mono (x : Nx m H m' H') {b : Addr} {o : O} (e : H' b = H b) (r : RepO K H m b o) : RepO K H' m' b o := by
  cases o with
  | lst xs =>
    obtain ⟨vs, e1, r1⟩ := r
    exact ⟨vs, e.trans e1, r1.mono x⟩
  | dic _ _ =>
    obtain ⟨us, e1, r1, nd⟩ := r
    exact ⟨us, e1.to e, r1.mono x, nd⟩
  | dit _ _ =>
    obtain ⟨us, e1, r1, nd⟩ := r
    exact ⟨us, e1.to e, r1.mono x, nd⟩
/-- a new object that nobody of m tracks (a tuple, a list in the air) -/
theorem Nx.laid (hn : H a = none) {o : HO} : Nx m H m (upd H a o) :=
  ⟨⟨[], by simp⟩, fun b u e _ => by rw [upd_ne (ne_of_none e hn)]; exact e, fun _ h1 h2 => absurd h1 h2, fun b xs e => ⟨xs, by rw [upd_ne (ne_of_none e hn)]; exact e⟩, fun b o u e => by rw [upd_ne (ne_of_none e hn)]; exact e⟩
theorem RelH.laid (x : RelH K m H h) (hn : H a = none) {o : HO} : RelH K m (upd H a o) h :=
  ⟨x.nd, x.len, fun n b u e1 e2 => (x.obj n b u e1 e2).mono (Nx.laid hn) (upd_ne fun z => x.free hn (z ▸ List.mem_of_getElem? e1))⟩
theorem Nx.grow (x : RelH K m H h) (hn : H a = none) {o : HO} : Nx m H (m ++ [a]) (upd H a o) :=
  ⟨⟨[a], rfl⟩, fun b u e _ => by rw [upd_ne (ne_of_none e hn)]; exact e, fun b h1 h2 => by
    rcases List.mem_append.mp h1 with z | z
    · exact absurd z h2
    · rw [List.mem_singleton.mp z]; exact hn, fun b xs e => ⟨xs, by rw [upd_ne (ne_of_none e hn)]; exact e⟩, fun b o u e => by rw [upd_ne (ne_of_none e hn)]; exact e⟩
theorem RelH.grow (x : RelH K m H h) (hn : H a = none) {xs : List W} {vs : List V} (r : RepL K H m xs vs) : RelH K (m ++ [a]) (upd H a (.lst vs)) (h ++ [.lst xs]) := by
  have g := Nx.grow x hn (o := .lst vs)
  refine ⟨?_, by simp [x.len], fun n b u e1 e2 => ?_⟩
  · rw [List.nodup_append]
    refine ⟨x.nd, by simp, fun b hb c hc => ?_⟩
    rw [List.mem_singleton.mp hc]
    exact fun z => x.free hn (z ▸ hb)
  · by_cases hl : n < m.length
    · rw [List.getElem?_append_left hl] at e1
      rw [List.getElem?_append_left (by rw [← x.len]; exact hl)] at e2
      exact (x.obj n b u e1 e2).mono g (upd_ne fun z => x.free hn (z ▸ List.mem_of_getElem? e1))
    · rw [List.getElem?_append_right (by omega)] at e1
      rw [List.getElem?_append_right (by rw [← x.len]; omega)] at e2
      have e3 : n - m.length = 0 := by
        have := (List.getElem?_eq_some_iff.mp e1).1
        simp at this; omega
      have e4 : n - h.length = 0 := by rw [← x.len]; exact e3
      rw [e3] at e1; rw [e4] at e2
      simp at e1 e2
      subst e1; subst e2
      exact ⟨vs, upd_same, r.mono g⟩
/-- an object of ours is changed -/
theorem Nx.put (hm : a ∈ m) {us vs : List V} (hl : H a = some (.lst us)) : Nx m H m (upd H a (.lst vs)) :=
  ⟨⟨[], by simp⟩, fun b u e hb => by rw [upd_ne (fun z => hb (by rw [z]; exact hm))]; exact e, fun _ h1 h2 => absurd h1 h2, fun b xs e => by
    by_cases z : b = a
    · exact ⟨vs, by rw [z]; exact upd_same⟩
    · exact ⟨xs, by rw [upd_ne z]; exact e⟩, fun b o u e => by rw [upd_ne (fun z => by rw [z, hl] at e; cases e)]; exact e⟩
/-- a dict of ours is changed -/
theorem Nx.putD (hm : a ∈ m) {ks ks' : List (Key × V)} (hd : H a = some (.dK ks)) : Nx m H m (upd H a (.dK ks')) :=
  ⟨⟨[], by simp⟩, fun b u e hb => by rw [upd_ne (fun z => hb (by rw [z]; exact hm))]; exact e, fun _ h1 h2 => absurd h1 h2, fun b xs e => by
    have z : b ≠ a := fun z => by rw [z, hd] at e; cases e
    exact ⟨xs, by rw [upd_ne z]; exact e⟩, fun b o u e => by rw [upd_ne (fun z => by rw [z, hd] at e; cases e)]; exact e⟩
theorem nodup_ix {α : Type} {l : List α} (nd : l.Nodup) {i j : Nat} {x : α} (h1 : l[i]? = some x) (h2 : l[j]? = some x) : i = j := by
  obtain ⟨a1, b1⟩ := List.getElem?_eq_some_iff.mp h1
  obtain ⟨a2, b2⟩ := List.getElem?_eq_some_iff.mp h2
  exact (List.getElem_inj nd).mp (b1.trans b2.symm)
theorem RelH.put (x : RelH K m H h) {n : Nat} (e : m[n]? = some a) {xs : List W} {us vs : List V} (hl : H a = some (.lst us)) (r : RepL K H m xs vs) : RelH K m (upd H a (.lst vs)) (h.set n (.lst xs)) := by
  have hm := List.mem_of_getElem? e
  refine ⟨x.nd, by simp [x.len], fun i b u e1 e2 => ?_⟩
  by_cases hi : i = n
  · subst hi
    rw [e] at e1; cases e1
    have hi2 : i < h.length := by rw [← x.len]; exact (List.getElem?_eq_some_iff.mp e).1
    rw [List.getElem?_set_self hi2] at e2
    cases e2
    exact ⟨vs, upd_same, r.mono (Nx.put hm hl)⟩
  · rw [List.getElem?_set_ne (Ne.symm hi)] at e2
    exact (x.obj i b u e1 e2).mono (Nx.put hm hl) (upd_ne fun z => hi (nodup_ix x.nd e1 (z ▸ e)))
end

section
variable {K : PySem.W.Frag} {m m' : List Addr} {H H' : Hp} {h : Hw} {D : Addr}
/-- a list in the air is changed -/
theorem StT.air {a : Addr} {vs ys zs : List V} (hD : H D = some (.lst ys)) (s : StT K H m a vs) : StT K (upd H D (.lst zs)) m a vs := by
  rcases s with ⟨⟨o, r, d⟩, n⟩ | s
  · exact .inl ⟨⟨o, by rw [upd_ne (ne_of r hD (fun z => by cases z))]; exact r, d⟩, n⟩
  · exact .inr s
theorem StL.air {a : Addr} {vs ys zs : List V} (hD : H D = some (.lst ys)) (s : StL K H m a vs) : StL K (upd H D (.lst zs)) m a vs := by
  rcases s with ⟨⟨o, r⟩, n⟩ | s
  · exact .inl ⟨⟨o, by rw [upd_ne (ne_of r hD (fun z => by cases z))]; exact r⟩, n⟩
  · exact .inr s
mutual
theorem Rep.air {ys zs : List V} (hD : H D = some (.lst ys)) : ∀ {w : W} {v : V}, Rep K H m w v → Rep K (upd H D (.lst zs)) m w v
  | .non, _, r => by unfold Rep at r ⊢; exact r
  | .bl _, _, r => by unfold Rep at r ⊢; exact r
  | .int _, _, r => by unfold Rep at r ⊢; exact r
  | .str _, _, r => by unfold Rep at r ⊢; exact r
  | .tup xs, _, r => by
    unfold Rep at r ⊢
    obtain ⟨a, vs, e, s, q⟩ := r
    exact ⟨a, vs, e, s.air hD, RepL.air hD q⟩
  | .fl xs, _, r => by
    unfold Rep at r ⊢
    obtain ⟨a, vs, e, s, q⟩ := r
    exact ⟨a, vs, e, s.air hD, RepL.air hD q⟩
  | .ref n, _, r => by unfold Rep at r ⊢; exact r
  | .rg _ _, _, r => by
    unfold Rep at r ⊢
    obtain ⟨a, e, q, n⟩ := r
    exact ⟨a, e, by rw [upd_ne (ne_of q hD (fun z => by cases z))]; exact q, n⟩
theorem RepL.air {ys zs : List V} (hD : H D = some (.lst ys)) : ∀ {ws : List W} {vs : List V}, RepL K H m ws vs → RepL K (upd H D (.lst zs)) m ws vs
  | [], _, r => by unfold RepL at r ⊢; exact r
  | w :: ws, _, r => by
    unfold RepL at r ⊢
    obtain ⟨v, q, e, r1, r2⟩ := r
    exact ⟨v, q, e, Rep.air hD r1, RepL.air hD r2⟩
end
theorem RepS.air {ys zs : List V} (hD : H D = some (.lst ys)) : ∀ {ρ : En} {σ : L2.St}, RepS K H m ρ σ → RepS K (upd H D (.lst zs)) m ρ σ
  | [], _, r => by unfold RepS at r ⊢; exact r
  | none :: ρ, _, r => by
    unfold RepS at r ⊢
    obtain ⟨y, q, e, r2⟩ := r
    exact ⟨y, q, e, RepS.air hD r2⟩
  | some w :: ρ, _, r => by
    unfold RepS at r ⊢
    obtain ⟨v, q, e, r1, r2⟩ := r
    exact ⟨v, q, e, r1.air hD, RepS.air hD r2⟩
theorem RelH.air {ys zs : List V} (hD : H D = some (.lst ys)) (hm : D ∉ m) (x : RelH K m H h) : RelH K m (upd H D (.lst zs)) h := by
  refine ⟨x.nd, x.len, fun n a o e1 e2 => ?_⟩
  have q := x.obj n a o e1 e2
  have hne : a ≠ D := fun z => hm (z ▸ List.mem_of_getElem? e1)
  cases o with
  | lst xs =>
    obtain ⟨vs, f, r⟩ := q
    exact ⟨vs, by rw [upd_ne hne]; exact f, r.air hD⟩
  | dic _ _ =>
    obtain ⟨us, f, r, nd⟩ := q
    exact ⟨us, f.to (upd_ne hne), r.air hD, nd⟩
  | dit _ _ =>
    obtain ⟨us, f, r, nd⟩ := q
    exact ⟨us, f.to (upd_ne hne), r.air hD, nd⟩
/-- a step, then a change of what was not there -/
theorem Nx.airNew (x : Nx m H m' H') (hD : H D = none) {o : HO} : Nx m H m' (upd H' D o) :=
  ⟨x.pre, fun a u e hm => by rw [upd_ne (ne_of_none e hD)]; exact x.fr a u e hm, x.new, fun a xs e => by
    obtain ⟨ys, f⟩ := x.kd a xs e
    exact ⟨ys, by rw [upd_ne (ne_of_none e hD)]; exact f⟩, fun a o u e => by rw [upd_ne (ne_of_none e hD)]; exact x.fz a o u e⟩
/-- a list in the air becomes one of ours -/
theorem RelH.adopt {xs : List W} {vs : List V} (x : RelH K m H h) (hD : H D = some (.lst vs)) (hm : D ∉ m) (r : RepL K H m xs vs) : RelH K (m ++ [D]) H (h ++ [.lst xs]) ∧ (∀ {ws : List W} {us : List V}, RepL K H m ws us → RepL K H (m ++ [D]) ws us) := by
  have tt : ∀ {a : Addr} {us : List V}, StT K H m a us → StT K H (m ++ [D]) a us := fun {a us} s => by
    rcases s with ⟨⟨o, s, d⟩, n⟩ | s
    · refine .inl ⟨⟨o, s, d⟩, fun z => ?_⟩
      rcases List.mem_append.mp z with z | z
      · exact n z
      · rw [List.mem_singleton.mp z, hD] at s; cases s
    · exact .inr s
  have tl : ∀ {a : Addr} {us : List V}, StL K H m a us → StL K H (m ++ [D]) a us := fun {a us} s => by
    rcases s with ⟨⟨o, s⟩, n⟩ | s
    · refine .inl ⟨⟨o, s⟩, fun z => ?_⟩
      rcases List.mem_append.mp z with z | z
      · exact n z
      · rw [List.mem_singleton.mp z, hD] at s; cases s
    · exact .inr s
  have two : ∀ n : Nat, (∀ (w : W) (v : V), sizeOf w < n → Rep K H m w v → Rep K H (m ++ [D]) w v) ∧ (∀ (ws : List W) (us : List V), sizeOf ws < n → RepL K H m ws us → RepL K H (m ++ [D]) ws us) := by
    intro n
    induction n with
    | zero => exact ⟨fun _ _ z => absurd z (Nat.not_lt_zero _), fun _ _ z => absurd z (Nat.not_lt_zero _)⟩
    | succ n ih =>
      refine ⟨fun w v hw r => ?_, fun ws us hw r => ?_⟩
      · cases w with
        | tup xs =>
          unfold Rep at r ⊢
          obtain ⟨a, vs, e, s, q⟩ := r
          exact ⟨a, vs, e, tt s, ih.2 xs vs (by simp at hw; omega) q⟩
        | fl xs =>
          unfold Rep at r ⊢
          obtain ⟨a, vs, e, s, q⟩ := r
          exact ⟨a, vs, e, tl s, ih.2 xs vs (by simp at hw; omega) q⟩
        | ref k =>
          unfold Rep at r ⊢
          obtain ⟨a, e, q⟩ := r
          exact ⟨a, by rw [List.getElem?_append_left (List.getElem?_eq_some_iff.mp e).1]; exact e, q⟩
        | rg i j =>
          unfold Rep at r ⊢
          obtain ⟨a, e, q, n⟩ := r
          refine ⟨a, e, q, fun z => ?_⟩
          rcases List.mem_append.mp z with z | z
          · exact n z
          · rw [List.mem_singleton.mp z, hD] at q; cases q
        | _ => unfold Rep at r ⊢; exact r
      · cases ws with
        | nil => unfold RepL at r ⊢; exact r
        | cons w ws =>
          unfold RepL at r ⊢
          obtain ⟨v, q, e, r1, r2⟩ := r
          exact ⟨v, q, e, ih.1 w v (by simp at hw; omega) r1, ih.2 ws q (by simp at hw; omega) r2⟩
  have all : ∀ {ws : List W} {us : List V}, RepL K H m ws us → RepL K H (m ++ [D]) ws us := fun {ws us} r => (two (sizeOf ws + 1)).2 ws us (Nat.lt_succ_self _) r
  refine ⟨⟨?_, by simp [x.len], fun n b u e1 e2 => ?_⟩, all⟩
  · rw [List.nodup_append]
    refine ⟨x.nd, by simp, fun b hb c hc => ?_⟩
    rw [List.mem_singleton.mp hc]
    exact fun z => hm (z ▸ hb)
  · by_cases hl : n < m.length
    · rw [List.getElem?_append_left hl] at e1
      rw [List.getElem?_append_left (by rw [← x.len]; exact hl)] at e2
      have q := x.obj n b u e1 e2
      cases u with
      | lst ys =>
        obtain ⟨us, f, r'⟩ := q
        exact ⟨us, f, all r'⟩
      | dic _ _ =>
        obtain ⟨us, f, r', nd⟩ := q
        exact ⟨us, f, all r', nd⟩
      | dit _ _ =>
        obtain ⟨us, f, r', nd⟩ := q
        exact ⟨us, f, all r', nd⟩
    · rw [List.getElem?_append_right (by omega)] at e1
      rw [List.getElem?_append_right (by rw [← x.len]; omega)] at e2
      have e3 : n - m.length = 0 := by
        have := (List.getElem?_eq_some_iff.mp e1).1
        simp at this; omega
      have e4 : n - h.length = 0 := by rw [← x.len]; exact e3
      rw [e3] at e1; rw [e4] at e2
      simp at e1 e2
      subst e1; subst e2
      exact ⟨vs, hD, all r⟩
end

/-! ### readings -/
/-- what an exception is in the hand layer; the classes' table -/
structure GX where
  prog : Program
  w : World
  K : PySem.W.Frag
  mg : Str → Option Value
  base : Heap
  /-- the exception classes -/
  cls : List Value
def RepX (G : GX) (H : Hp) (m : List Addr) (e : Ex) (c : Value) (d : Option Addr) : Prop :=
  G.cls[e.cls]? = some c ∧ e.args = [] ∧ d = none

section
variable (G : GX)
/-- what is wanted of a result of one's own -/
def ROk {α : Type} (m : List Addr) (H : Hp) (r : Res α) (P : α → Hw → List Addr → Hp → Prop) (E : XK) : Prop :=
  match r with
  | .ok a h' => ∀ m' H', Nx m H m' H' → RelH G.K m' H' h' → P a h' m' H'
  | .exc e h' => ∀ m' H' c d, Nx m H m' H' → RelH G.K m' H' h' → RepX G H' m' e c d → E c d H'
  | .err => False
/-- a result that is a value of ours and one of theirs -/
def RV {α β : Type} (R : Hp → List Addr → α → β → Prop) (m : List Addr) (H : Hp) (r : Res α) (Q : β → Hp → Prop) (E : XK) : Prop :=
  match r with
  | .ok a h' => ∀ m' H' b, Nx m H m' H' → RelH G.K m' H' h' → R H' m' a b → Q b H'
  | .exc e h' => ∀ m' H' c d, Nx m H m' H' → RelH G.K m' H' h' → RepX G H' m' e c d → E c d H'
  | .err => False
end
section
variable {G : GX} {m m1 : List Addr} {H H1 : Hp} {E E' : XK}
theorem RV.down {α β : Type} {R : Hp → List Addr → α → β → Prop} {r : Res α} {Q : β → Hp → Prop} (x : Nx m H m1 H1) (z : RV G R m H r Q E) : RV G R m1 H1 r Q E := by
  cases r with
  | ok a h' => exact fun m' H' b n r q => z m' H' b (x.trans n) r q
  | exc e h' => exact fun m' H' c d n r q => z m' H' c d (x.trans n) r q
  | err => exact z
theorem RV.mono {α β : Type} {R : Hp → List Addr → α → β → Prop} {r : Res α} {Q Q' : β → Hp → Prop} (z : RV G R m H r Q E) (hq : ∀ b H', Q b H' → Q' b H') : RV G R m H r Q' E := by
  cases r with
  | ok a h' => exact fun m' H' b n r q => hq b H' (z m' H' b n r q)
  | exc e h' => exact z
  | err => exact z
theorem RV.bind {α β α' β' : Type} {R : Hp → List Addr → α → β → Prop} {R' : Hp → List Addr → α' → β' → Prop} {r : Res α} {f : α → Hw → Res α'} {Q : β' → Hp → Prop}
    (z : RV G R' m H (r.bind f) Q E) : RV G R m H r (fun b H1 => ∃ m1 a h1, Nx m H m1 H1 ∧ RelH G.K m1 H1 h1 ∧ R H1 m1 a b ∧ RV G R' m1 H1 (f a h1) Q E) E := by
  cases r with
  | ok a h' => exact fun m' H' b n rh q => ⟨m', a, h', n, rh, q, RV.down n z⟩
  | exc e h' => exact fun m' H' c d n rh q => z m' H' c d n rh q
  | err => exact z
end
end Ev

set_option Elab.async false
set_option linter.all false
set_option maxRecDepth 100000
/-! EvT: tuples are laid as known objects (their dict is none): so dict(t), t.index(k) can be served. -/
namespace Ev
open PySem PySem.Spec PyProof.Rows L2
/-- a new tuple, known -/
abbrev NewT (vs : List V) (H : Hp) (Q : VK) : Prop := ∀ (p : Addr) (o : Obj), H p = none → o.dict = none → Q (.ref p) (upd H p (.frz o (.tup vs)))
section
variable {X : Cx}
theorem laidF {pins : List (Addr × Obj)} {σ : L2.St} {H : Hp} {s : Shared} {vs : List V} {its : List Value} {Q : VK} (I : Inv X pins σ H s) (z : vs.length ≤ sizeLine) (r : Vals vs its) (q : NewT vs H Q) :
    EP X pins σ Q (.ref s.heap.objs.size) { s with heap := s.heap.push { cls := .type "tuple", data := .seq its.toArray } } := by
  have nw : ObjOk X.prog X.w (upd H s.heap.objs.size (.frz { cls := .type "tuple", data := .seq its.toArray } (.tup vs))) (s.heap.push { cls := .type "tuple", data := .seq its.toArray }) s.heap.objs.size (.frz { cls := .type "tuple", data := .seq its.toArray } (.tup vs)) :=
    ⟨Heap.get?_push_size _ rfl, z, its, r, ⟨_, Heap.get?_push_size _ rfl, rfl, 0, rfl⟩⟩
  exact ⟨.ref s.heap.objs.size, _, I.laid (t' := s.toks) (fun b u e => Heap.get?_push_of_some _ e) (Nat.le_refl _) nw, rfl, q _ _ (I.hok.fresh (Nat.le_refl _)) rfl⟩
def tTupF (t : TA) : TE := fun σ H Q => t σ H fun xs H1 => xs.length ≤ sizeLine ∧ NewT xs H1 Q
theorem pe_tupF {es : List Expr} {k : Nat} {pos : Pos} {t : TA} (h : PA X es t) : PE X (.Tuple es k pos) (tTupF t) :=
  ⟨fun pins s σ H Q I hq => wpAny_Tuple_spliced (thn (h.run pos pins s σ H _ I hq) fun us s1 ⟨xs, H1, I1, r, z, q⟩ => ⟨by rw [← r.length]; exact z, laidF I1 z r q⟩)⟩
/-- t + u -/
def rCatF (K : PySem.W.Frag) : R2 := fun x y H Q => ∃ a b xs ys, x = .ref a ∧ y = .ref b ∧ SqT K H a xs ∧ SqT K H b ys ∧ xs.length + ys.length ≤ sizeLine ∧
  (xs = [] → Q (.ref b) H) ∧ (xs ≠ [] → ys = [] → Q (.ref a) H) ∧ NewT (xs ++ ys) H Q
theorem op_catF : OpR X (binaryOp .Add) (rCatF X.K) := by
  intro pins s σ H x y v u Q I rx ry ⟨a, b, xs, ys, ex, ey, ha, hb, hz, q0, q1, q2⟩
  subst ex ey
  cases rx
  cases ry
  obtain ⟨i1, r1, p1, _⟩ := I.tuple ha
  obtain ⟨i2, r2, p2, _⟩ := I.tuple hb
  by_cases hx : xs = []
  · subst hx
    cases r1
    exact cat_tup0 p1 p2 ⟨.ref b, H, I, rfl, q0 rfl⟩
  · refine HT.cat_tup p1 p2 (fun z => hx (r1.nil_iff.mp z)) (fun z => ⟨.ref a, H, I, rfl, q1 hx (r2.nil_iff.mp z)⟩) (fun z => ?_) (by rw [← r1.length, ← r2.length]; exact hz)
    exact laidF I (by rw [List.length_append]; exact hz) (r1.append r2) q2
/-- t[lo:hi] -/
def rSlF (K : PySem.W.Frag) : V → Option Int → Option Int → Hp → VK → Prop := fun x lo hi H Q => ∃ a xs, x = .ref a ∧ SqT K H a xs ∧
  (HT.sIx xs.length 0 lo = 0 ∧ HT.sIx xs.length xs.length hi = xs.length → Q (.ref a) H) ∧ NewT (cutV xs lo hi) H Q
theorem sl_tupF : SlR X (rSlF X.K) := by
  intro pins s σ H x v vl vu lo hi sl Q I rx hs pl pu ⟨a, xs, ex, hx, q1, q2⟩
  subst ex
  cases rx
  obtain ⟨its, r, ht, hz⟩ := I.tuple hx
  have hn : its.toArray.size = xs.length := by rw [List.size_toArray]; exact r.length.symm
  refine ⟨"tuple", _, PyProof.Rows.slot_tuple_getitem.lookup, ht.typeIs, ?_⟩
  by_cases hw : HT.sIx xs.length 0 lo = 0 ∧ HT.sIx xs.length xs.length hi = xs.length
  · exact getItem_tuple_whole ht hs pl pu (by rw [hn]; exact hw) ⟨.ref a, H, I, rfl, q1 hw⟩
  · refine HT.getItem_tuple_cut ht hs pl pu (by rw [hn]; exact hw) ?_ (by rw [hn]; exact hz)
    rw [hn]
    exact laidF I (Nat.le_trans (cutV_length xs lo hi) hz) ((r.drop _).take _) q2
/-- tuple(x) -/
def rTupF (K : PySem.W.Frag) : List V → Hp → VK → Prop := fun xs H Q => ∃ p ys, xs = [.ref p] ∧ ((SqL K H p ys ∧ NewT ys H Q) ∨ (SqT K H p ys ∧ Q (.ref p) H))
theorem cr_tupF : CallR X (.type "tuple") (rTupF X.K) := by
  intro pins s σ H xs us Q I r ⟨p, ys, ex, h⟩
  subst ex
  obtain ⟨u, eu, rx⟩ := vals1 r
  subst eu
  cases rx
  rcases h with ⟨hq, q⟩ | ⟨hq, q⟩
  · obtain ⟨its, r', pl, hz⟩ := I.list hq
    have hn := r'.length
    refine call_tuple_list pl.isList (fun h' kp => ?_) (by simp only [List.size_toArray] <;> omega)
    have I1 : Inv X pins σ H { s with heap := h' } := I.kept (t' := s.toks) kp
    exact laidF I1 hz r' q
  · obtain ⟨its, r', pl, hz⟩ := I.tuple hq
    exact call_tuple_same pl ⟨.ref p, H, I, rfl, q⟩
/-- divmod -/
def rDvF : List V → Hp → VK → Prop := fun xs H Q => ∃ i j, xs = [.int i, .int j] ∧ CDivP i j ∧ NewT [.int (i / j), .int (i % j)] H Q
theorem cr_dvF : CallR X (.builtin "divmod") rDvF := by
  intro pins s σ H xs us Q I r ⟨i, j, ex, hc, q⟩
  subst ex
  obtain ⟨h1, h2⟩ := hc
  obtain ⟨u, w', eu, ⟨t, et⟩, ⟨t', et'⟩⟩ := vals2 r
  subst eu et et'
  refine divmod_int (by omega) ?_ (.inl h2)
  rw [Int.fdiv_eq_ediv_of_nonneg i (by omega), Int.fmod_eq_emod_of_nonneg i (by omega)]
  have e : ∀ (s0 : Shared) (I0 : Inv X pins σ H s0) (t1 t2 t3 : Tok), EP X pins σ Q (.ref s0.heap.objs.size) { s0 with heap := s0.heap.push { cls := .type "tuple", data := .seq #[.int (i / j) t1, .int (i % j) t2] }, toks := t3 } := fun s0 I0 t1 t2 t3 => by
    obtain ⟨x, H', I', rx, qq⟩ := laidF (vs := [.int (i / j), .int (i % j)]) (its := [.int (i / j) t1, .int (i % j) t2]) I0 (by rw [sizeLine_eq]; simp) (.cons ⟨_, rfl⟩ (.cons ⟨_, rfl⟩ .nil)) q
    exact ⟨x, H', I'.kept (t' := t3) (fun b o e => e), rx, qq⟩
  exact e s I _ _ _
end
end Ev

set_option Elab.async false
set_option linter.all false
set_option maxRecDepth 100000
set_option maxHeartbeats 4000000
/-! EvX: list.extend of a tuple. -/
namespace PySem
open PySem.Spec PySem.AutoSeq1
set_option maxRecDepth 8000 in
theorem ext_list_tup (l : Addr) (items : Array Value) (n : Nat) (b : Addr) (items2 : Array Value) (n2 : Nat) (d2 : Option Addr) (sl2 : Array (Option Value)) (hs0 : ¬(!items.isEmpty && Builtin.List.listTooLong (items.size + items2.size)) = true) (hs1 : items.size ≤ sizeLine) (hs2 : items.size + items2.size ≤ sizeLine + 1) :
    Meets (Builtin.«list.extend» ⟨[.ref l, .ref b], []⟩) (fun _ R s => s.heap.get? l = some { cls := .type "list", dict := none, data := .seq items n, slots := #[] } ∧ s.heap.get? b = some { cls := .type "tuple", dict := d2, data := .seq items2 n2, slots := sl2 } ∧ R (.ok (.ret Value.none)) { s with heap := s.heap.update l (Obj.mapSeq fun x => x ++ items2), toks := s.toks }) :=
  .of_wp fun prog w A R s h => by
    obtain ⟨hp, g, d, tk, os⟩ := s; obtain ⟨hl, hb, h⟩ := h; have f1 := idx_int; have f2 := sub_tuple_tuple; have f3 := sub_list_list; have f4 := sub_tuple_list; have f5 := sub_list_tuple
    have hz' : (items ++ items2).size ≤ sizeLine + 1 := by rw [Array.size_append]; exact hs2
    wp_walk using (wpAny_updateSeq hl rfl (hz := hs1) (_hz' := hz')), wpAny_loadPart' hl, wpAny_loadPart' hb
    exact ⟨_, rfl, h⟩
end PySem
namespace Ev
open PySem PySem.Spec PyProof.Rows L2
section
variable {X : Cx}
/-- l.extend(b): b a list or a tuple -/
def rExtA (K : PySem.W.Frag) : V → List V → Hp → VK → Prop := fun x vs H Q => ∃ l b xs zs, x = .ref l ∧ vs = [.ref b] ∧ H l = some (.lst xs) ∧ (H b = some (.lst zs) ∨ SqT K H b zs) ∧ xs.length + zs.length ≤ sizeLine ∧ Q .non (upd H l (.lst (xs ++ zs)))
theorem mt_extA : MtM X "list.extend" (rExtA X.K) := by
  intro pins s σ H x vs v us Q I rx rv h
  obtain ⟨l, b, xs, zs, rfl, rfl, hH, hB | hB, hz, q⟩ := h
  · exact mt_extend _ _ _ _ _ _ _ _ _ I rx rv ⟨l, b, xs, zs, rfl, rfl, hH, hB, hz, q⟩
  · cases rx
    obtain ⟨u, rfl, ru⟩ := rv.one
    cases ru
    obtain ⟨z, its, n, r, hl, e⟩ := I.lstM hH
    obtain ⟨its2, r2, pt, hl2⟩ := I.tuple hB
    obtain ⟨o2, e2, c2, n2, d2⟩ := (show s.heap.IsTuple b its2.toArray from pt)
    obtain ⟨oc, od, oda, osl⟩ := o2
    simp only at c2 d2
    subst c2; subst d2
    have l2 := r2.length
    have hsz : its.toArray.size + its2.toArray.size ≤ sizeLine := by rw [List.size_toArray, List.size_toArray]; omega
    have hlong : ¬ (!its.toArray.isEmpty && Builtin.List.listTooLong (its.toArray.size + its2.toArray.size)) = true := by
      rw [notLongL hsz, Bool.and_false]
      exact Bool.false_ne_true
    refine call_meets F.slot_list_extend ⟨_, e, rfl⟩ F.entry_list_extend (F.args_list_extend_2 _ _)
      (ext_list_tup l its.toArray n b its2.toArray n2 od osl hlong (by rw [List.size_toArray]; omega) (by omega)) ⟨e, e2, ?_⟩
    refine ⟨.non, _, I.lset (its' := its ++ its2) hH e (by simp) (r.append r2) ?_, rfl, q⟩
    rw [List.length_append]
    omega
end
end Ev

set_option Elab.async false
set_option linter.all false
set_option maxRecDepth 100000
/-! Ev3: operators and built-in functions by values. -/
namespace Ev
open PySem PySem.Spec PyProof.Rows L2

theorem lim_eq : lim = sizeLine := by rw [sizeLine_eq]; rfl
section
variable {G : GX} {m m' : List Addr} {H H' : Hp} {h h' : Hw} {E : XK}
theorem Rep.int_of {v : V} {i : Int} (r : Rep G.K H m (.int i) v) : v = .int i := by unfold Rep at r; exact r
theorem Rep.bl_of {v : V} {b : Bool} (r : Rep G.K H m (.bl b) v) : v = .bl b := by unfold Rep at r; exact r
theorem Rep.non_of {v : V} (r : Rep G.K H m .non v) : v = .non := by unfold Rep at r; exact r
theorem Rep.str_of {v : V} {x : Str} (r : Rep G.K H m (.str x) v) : v = .str x := by unfold Rep at r; exact r
theorem Rep.tup_of {v : V} {xs : List W} (r : Rep G.K H m (.tup xs) v) : ∃ a vs, v = .ref a ∧ StT G.K H m a vs ∧ RepL G.K H m xs vs := by unfold Rep at r; exact r
theorem Rep.fl_of {v : V} {xs : List W} (r : Rep G.K H m (.fl xs) v) : ∃ a vs, v = .ref a ∧ StL G.K H m a vs ∧ RepL G.K H m xs vs := by unfold Rep at r; exact r
theorem Rep.ref_of {v : V} {n : Nat} (r : Rep G.K H m (.ref n) v) : ∃ a, m[n]? = some a ∧ v = .ref a := by unfold Rep at r; exact r
theorem Rep.int' {i : Int} : Rep G.K H m (.int i) (.int i) := by unfold Rep; rfl
theorem Rep.bl' {b : Bool} : Rep G.K H m (.bl b) (.bl b) := by unfold Rep; rfl
theorem Rep.non' : Rep G.K H m .non .non := by unfold Rep; rfl
theorem Rep.str' {x : Str} : Rep G.K H m (.str x) (.str x) := by unfold Rep; rfl
theorem Rep.tup' {xs : List W} {vs : List V} {a : Addr} (s : StT G.K H m a vs) (r : RepL G.K H m xs vs) : Rep G.K H m (.tup xs) (.ref a) := by unfold Rep; exact ⟨a, vs, rfl, s, r⟩
theorem Rep.ref' {n : Nat} {a : Addr} (e : m[n]? = some a) : Rep G.K H m (.ref n) (.ref a) := by unfold Rep; exact ⟨a, e, rfl⟩

/-- the end: a value, nothing made -/
theorem RV.here {α β : Type} {R : Hp → List Addr → α → β → Prop} {a : α} {b : β} {Q : β → Hp → Prop} (z : RV G R m H (.ok a h) Q E) (rh : RelH G.K m H h) (r : R H m a b) : Q b H := z m H b .refl rh r
/-- a new tuple -/
theorem RV.newT {xs : List W} {vs : List V} {Q : V → Hp → Prop} (z : RV G (Rep G.K) m H (.ok (.tup xs) h) Q E) (rh : RelH G.K m H h) (r : RepL G.K H m xs vs) : NewT vs H Q := fun p o hp hd =>
  z m _ _ (Nx.laid hp) (rh.laid hp) (.tup' (.inl ⟨⟨o, upd_same, hd⟩, rh.free hp⟩) (r.mono (Nx.laid hp)))
/-- a new list -/
theorem RV.newL {xs : List W} {vs : List V} {Q : V → Hp → Prop} (z : RV G (Rep G.K) m H (.ok (.ref h.length) (h ++ [.lst xs])) Q E) (rh : RelH G.K m H h) (r : RepL G.K H m xs vs) : ∀ p, H p = none → Q (.ref p) (upd H p (.lst vs)) := fun p hp =>
  z (m ++ [p]) _ _ (Nx.grow rh hp) (rh.grow hp r) (.ref' (by rw [← rh.len, List.getElem?_append_right (Nat.le_refl _)]; simp))
theorem RV.no {α β : Type} {R : Hp → List Addr → α → β → Prop} {Q : β → Hp → Prop} {C : Prop} (z : RV G R m H (.err : Res α) Q E) : C := (show False from z).elim

def OpS (G : GX) (r : R2) (sem : W → W → Hw → Res W) : Prop :=
  ∀ (m : List Addr) (H : Hp) (h : Hw) (a b : W) (x y : V) (Q : VK) (E : XK), RelH G.K m H h → Rep G.K H m a x → Rep G.K H m b y → RV G (Rep G.K) m H (sem a b h) Q E → r x y H Q

/-- what a seq value is -/
theorem seq_of {w : W} {v : V} {xs : List W} (rh : RelH G.K m H h) (r : Rep G.K H m w v) (e : seqOf h w = some xs) :
    ∃ a vs, v = .ref a ∧ RepL G.K H m xs vs ∧ (SqL G.K H a vs ∨ SqT G.K H a vs) := by
  cases w with
  | tup ys =>
    obtain ⟨a, vs, e1, s, q⟩ := r.tup_of
    cases (show some ys = some xs from e)
    exact ⟨a, vs, e1, q, .inr s.sq⟩
  | fl ys =>
    obtain ⟨a, vs, e1, s, q⟩ := r.fl_of
    cases (show some ys = some xs from e)
    exact ⟨a, vs, e1, q, .inl s.sq⟩
  | ref n =>
    obtain ⟨a, e1, e2⟩ := r.ref_of
    have e : (match h[n]? with | some (.lst xs) => some xs | _ => none) = some xs := e
    split at e
    · rename_i ys hy
      cases e
      obtain ⟨vs, e3, q⟩ := rh.lst hy e1
      exact ⟨a, vs, e2, q, .inl (SqL.of e3)⟩
    · cases e
  | _ => cases e
theorem lens {ws : List W} {vs : List V} (r : RepL G.K H m ws vs) : vs.length = ws.length := r.len.symm
end

/-! ### binary operators -/
section
variable {X : Cx} {G : GX}
def rNo : R2 := fun _ _ _ _ => False
theorem tuple_mulS (l : Addr) (items : Array Value) (n : Nat) (sl : Array (Option Value)) (x : Int) (u : Tok) (c0 : (decide (x < -(2 ^ 63)) || decide (x ≥ 2 ^ 63)) = false) (c1 : (items.isEmpty || x == 1) = true) (dd : Option Addr) :
    Meets (Builtin.«tuple.__mul__» ⟨[.ref l, .int x u], []⟩) (fun _ R s => s.heap.get? l = some { cls := .type "tuple", dict := dd, data := .seq items n, slots := sl } ∧
      R (.ok (.ret (Value.ref l))) s) :=
  .of_wp fun prog w A R s h => by
    obtain ⟨hp, g, d, tk, os⟩ := s
    obtain ⟨hl, h⟩ := h
    have f1 := AutoSeq1.idx_int
    wp_walk using wpAny_loadPart' hl
    repeat (first
      | (refine wpAny_ite_false (decide_eq_false (by rw [c0]; exact Bool.false_ne_true)) ?_; wp_walk using wpAny_loadPart' hl)
      | (refine wpAny_ite_true (decide_eq_true (by rw [c1])) ?_; wp_walk using wpAny_loadPart' hl))
    exact ⟨_, rfl, h⟩
theorem tuple_mul0 (l : Addr) (items : Array Value) (n : Nat) (sl : Array (Option Value)) (x : Int) (u : Tok) (c0 : (decide (x < -(2 ^ 63)) || decide (x ≥ 2 ^ 63)) = false) (c1 : (items.isEmpty || x == 1) = false) (c2 : (decide (x ≤ 0) || items.isEmpty) = true) (dd : Option Addr) :
    Meets (Builtin.«tuple.__mul__» ⟨[.ref l, .int x u], []⟩) (fun _ R s => s.heap.get? l = some { cls := .type "tuple", dict := dd, data := .seq items n, slots := sl } ∧
      R (.ok (.ret (Value.ref s.heap.objs.size))) { s with heap := s.heap.push { cls := Value.type "tuple", data := Data.seq #[] }, toks := s.toks }) :=
  .of_wp fun prog w A R s h => by
    obtain ⟨hp, g, d, tk, os⟩ := s
    obtain ⟨hl, h⟩ := h
    have f1 := AutoSeq1.idx_int
    wp_walk using wpAny_loadPart' hl
    repeat (first
      | (refine wpAny_ite_false (decide_eq_false (by rw [c0]; exact Bool.false_ne_true)) ?_; wp_walk using wpAny_loadPart' hl)
      | (refine wpAny_ite_false (decide_eq_false (by rw [c1]; exact Bool.false_ne_true)) ?_; wp_walk using wpAny_loadPart' hl)
      | (refine wpAny_ite_true (decide_eq_true (by rw [c2])) ?_; wp_walk using wpAny_loadPart' hl))
    exact ⟨_, rfl, h⟩
def rAddA (K : PySem.W.Frag) : R2 := fun x y H Q => rI0 (fun i j => .int (i + j)) x y H Q ∨ rCatF K x y H Q ∨ rCat x y H Q
theorem op_addA : OpR X (binaryOp .Add) (rAddA X.K) := op_add.or (op_catF.or op_cat)
theorem addS : OpS G (rAddA G.K) (bop .add) := by
  intro m H h a b x y Q E rh ra rb z
  cases a with
  | int i =>
    cases b with
    | int j =>
      rw [ra.int_of, rb.int_of]
      exact .inl ⟨i, j, rfl, rfl, z.here rh .int'⟩
    | _ => exact z.no
  | tup xs =>
    cases b with
    | tup ys =>
      obtain ⟨a1, v1, rfl, s1, q1⟩ := ra.tup_of
      obtain ⟨a2, v2, rfl, s2, q2⟩ := rb.tup_of
      have z : RV G (Rep G.K) m H (if xs.length + ys.length ≤ lim then .ok (.tup (xs ++ ys)) h else .err) Q E := z
      by_cases hl : xs.length + ys.length ≤ lim
      · rw [if_pos hl] at z
        refine .inr (.inl ⟨a1, a2, v1, v2, rfl, rfl, s1.sq, s2.sq, by rw [← q1.len, ← q2.len, ← lim_eq]; exact hl, fun e => ?_, fun _ e => ?_, z.newT rh (q1.append q2)⟩)
        · subst e
          have : xs = [] := List.eq_nil_of_length_eq_zero (by rw [q1.len]; rfl)
          subst this
          exact z.here rh (.tup' s2 q2)
        · subst e
          have : ys = [] := List.eq_nil_of_length_eq_zero (by rw [q2.len]; rfl)
          subst this
          rw [List.append_nil] at z
          exact z.here rh (.tup' s1 q1)
      · rw [if_neg hl] at z; exact z.no
    | _ => exact z.no
  | ref p =>
    cases b with
    | ref q =>
      obtain ⟨a1, e1, rfl⟩ := ra.ref_of
      obtain ⟨a2, e2, rfl⟩ := rb.ref_of
      have z : RV G (Rep G.K) m H (match h[p]?, h[q]? with
        | some (.lst xs), some (.lst ys) => if xs.length + ys.length ≤ lim then .ok (.ref h.length) (h ++ [.lst (xs ++ ys)]) else .err
        | _, _ => .err) Q E := z
      split at z
      · rename_i xs ys hx hy
        split at z
        · rename_i hl
          obtain ⟨v1, f1, q1⟩ := rh.lst hx e1
          obtain ⟨v2, f2, q2⟩ := rh.lst hy e2
          exact .inr (.inr ⟨a1, a2, v1, v2, rfl, rfl, f1, f2, by rw [← q1.len, ← q2.len, ← lim_eq]; exact hl, z.newL rh (q1.append q2)⟩)
        · exact z.no
      · exact z.no
    | _ => exact z.no
  | _ => exact z.no
theorem subS : OpS G (rI0 fun i j => .int (i - j)) (bop .sub) := by
  intro m H h a b x y Q E rh ra rb z
  cases a with
  | int i =>
    cases b with
    | int j =>
      rw [ra.int_of, rb.int_of]
      exact ⟨i, j, rfl, rfl, z.here rh .int'⟩
    | _ => exact z.no
  | _ => cases b <;> exact z.no
theorem mulOk_of {i j : Int} (h : mulOk i j = true) : CMul i j := by
  unfold mulOk at h
  unfold CMul
  rw [Bool.or_eq_true, decide_eq_true_eq, decide_eq_true_eq] at h
  omega
theorem fdivS : OpS G (rI CDivW fun i j => .int (i / j)) (bop .fdiv) := by
  intro m H h a b x y Q E rh ra rb z
  cases a with
  | int i =>
    cases b with
    | int j =>
      rw [ra.int_of, rb.int_of]
      have z : RV G (Rep G.K) m H (if divOk j = true then .ok (.int (i / j)) h else .err) Q E := z
      by_cases hd : divOk j = true
      · rw [if_pos hd] at z
        unfold divOk at hd
        rw [Bool.and_eq_true, decide_eq_true_eq, decide_eq_true_eq] at hd
        exact ⟨i, j, rfl, rfl, wide_div (b := 200) hd.1 (by omega) (by decide) (by decide), z.here rh .int'⟩
      · rw [if_neg hd] at z; exact z.no
    | _ => exact z.no
  | _ => cases b <;> exact z.no
theorem modS : OpS G (rI (fun _ j => 0 < j) fun i j => .int (i % j)) (bop .mod) := by
  intro m H h a b x y Q E rh ra rb z
  cases a with
  | int i =>
    cases b with
    | int j =>
      rw [ra.int_of, rb.int_of]
      have z : RV G (Rep G.K) m H (if 0 < j then .ok (.int (i % j)) h else .err) Q E := z
      by_cases hd : 0 < j
      · rw [if_pos hd] at z
        exact ⟨i, j, rfl, rfl, hd, z.here rh .int'⟩
      · rw [if_neg hd] at z; exact z.no
    | _ => exact z.no
  | _ => cases b <;> exact z.no
theorem powS : OpS G (rI CPow fun i j => .int (i ^ j.toNat)) (bop .pow) := by
  intro m H h a b x y Q E rh ra rb z
  cases a with
  | int i =>
    cases b with
    | int j =>
      rw [ra.int_of, rb.int_of]
      have z : RV G (Rep G.K) m H (if powOk i j = true then .ok (.int (i ^ j.toNat)) h else .err) Q E := z
      by_cases hd : powOk i j = true
      · rw [if_pos hd] at z
        unfold powOk at hd
        rw [Bool.and_eq_true, Bool.and_eq_true, decide_eq_true_eq, decide_eq_true_eq, decide_eq_true_eq] at hd
        exact ⟨i, j, rfl, rfl, ⟨hd.1.1, by omega, by omega⟩, z.here rh .int'⟩
      · rw [if_neg hd] at z; exact z.no
    | _ => exact z.no
  | _ => cases b <;> exact z.no

def rMulA (K : PySem.W.Frag) : R2 := fun x y H Q => rI CMul (fun i j => .int (i * j)) x y H Q ∨
  (∃ l k xs, x = .ref l ∧ y = .int k ∧ SqT K H l xs ∧ xs.length * k.toNat ≤ 1000000 ∧ k ≤ 1000000 ∧ -(2 ^ 62) < k ∧ ((List.replicate k.toNat xs).flatten = xs → Q (.ref l) H) ∧ NewT (List.replicate k.toNat xs).flatten H Q) ∨ rRep x y H Q
/-- a tuple many times over -/
theorem op_repBig : OpR X (binaryOp .Mult) (fun x y H Q => ∃ l k xs, x = .ref l ∧ y = .int k ∧ SqT X.K H l xs ∧ xs ≠ [] ∧ 2 ≤ k ∧ k ≤ 1000000 ∧ xs.length * k.toNat ≤ 1000000 ∧ NewT (List.replicate k.toNat xs).flatten H Q) := by
  intro pins s σ H x y v u Q I rx ry ⟨l, k, xs, ex, ey, hT, hne, k2, k6, hz, q⟩
  subst ex ey
  cases rx
  obtain ⟨t, rfl⟩ := ry
  obtain ⟨its, r, ⟨⟨cls, dd, data, sl⟩, ho, hc, n, hd⟩, _⟩ := I.tuple hT
  dsimp only at hc hd
  subst hc hd
  have len : its.length = xs.length := r.length.symm
  have pos : 0 < xs.length := List.length_pos_iff.mpr hne
  have emp : its.toArray.isEmpty = false := by
    rw [Array.isEmpty, List.size_toArray, len]
    exact decide_eq_false (by omega)
  have flat : (List.replicate k.toNat xs).flatten.length ≤ sizeLine := by
    rw [PyProof.Rows.lm_len_rep_flat, sizeLine_eq, Nat.mul_comm]; omega
  have flati : (List.replicate k.toNat its).flatten.length ≤ sizeLine := by
    rw [PyProof.Rows.lm_len_rep_flat, len, sizeLine_eq, Nat.mul_comm]; omega
  have prod : ((its.toArray.size : Nat) : Int) * k ≤ 1000000 := by
    have ek : ((k.toNat : Nat) : Int) = k := by omega
    rw [List.size_toArray, len, ← ek, ← Int.natCast_mul]; omega
  have many : Builtin.Tuple.tupleTooMany (((its.toArray.size : Nat) : Int) * k) = false := by
    unfold Builtin.Tuple.tupleTooMany; rw [sizeLine_eq]; exact decide_eq_false (by omega)
  have a0 : (decide (k < -(2 ^ 63)) || decide (k ≥ 2 ^ 63)) = false := by simp; omega
  have a1 : (its.toArray.isEmpty || k == 1) = false := by rw [emp]; simp; omega
  have a2 : (decide (k ≤ 0) || its.toArray.isEmpty) = false := by rw [emp]; simp; omega
  exact wpAny_binaryOp_repeat_ref (T := "tuple") (U := "int") (by decide) ⟨_, ho, rfl⟩ (fun z => typeIs_int z k t) noFill_tuple_mul F.fills_int_mul F.slot_int_rmul repeat_tuple F.slot_int_index.lookup (call_meets F.slot_int_rmul (typeIs_int s k t) F.entry_int_rmul (F.args_int_rmul_2 _ _) (int_rmul_tuple k t l its.toArray n dd sl) ⟨ho, rfl, ⟨_, ho, rfl⟩, call_meets F.slot_tuple_mul ⟨_, ho, rfl⟩ F.entry_tuple_mul (F.args_tuple_mul_2 _ _) (tuple_mulW l its.toArray n dd sl k t a0 a1 a2 (by omega) many (by rw [size_rep, List.size_toArray]; exact flati)) ⟨ho, by
    rw [size_rep]
    exact laidF I flat (r.rep k.toNat) q⟩⟩)
theorem op_repAll : OpR X (binaryOp .Mult) (fun x y H Q => ∃ l k xs, x = .ref l ∧ y = .int k ∧ SqT X.K H l xs ∧ xs.length * k.toNat ≤ 1000000 ∧ k ≤ 1000000 ∧ -(2 ^ 62) < k ∧ ((List.replicate k.toNat xs).flatten = xs → Q (.ref l) H) ∧ NewT (List.replicate k.toNat xs).flatten H Q) := by
  intro pins s σ H x y v u Q I rx ry h
  obtain ⟨l, k, xs, rfl, rfl, hT, hz, h2, h3, qs, q⟩ := h
  by_cases hbig : xs ≠ [] ∧ 2 ≤ k
  · exact op_repBig pins s σ H _ _ v u Q I rx ry ⟨l, k, xs, rfl, rfl, hT, hbig.1, hbig.2, h2, hz, q⟩
  cases rx
  obtain ⟨t, rfl⟩ := ry
  obtain ⟨its, r, ⟨⟨cls, dd, data, sl⟩, ho, hc, n, hd⟩, hs⟩ := I.tuple hT
  simp only at hc hd
  subst hc hd
  have hle : its.length = xs.length := r.length.symm
  have c0 : (decide (k < -(2 ^ 63)) || decide (k ≥ 2 ^ 63)) = false := by
    rw [decide_eq_false (by omega), decide_eq_false (by omega)] <;> rfl
  have hemp : its.toArray.isEmpty = decide (xs = []) := by
    cases its with
    | nil =>
      have : xs = [] := List.eq_nil_of_length_eq_zero hle.symm
      rw [this]; rfl
    | cons a b =>
      have : xs ≠ [] := fun e => by rw [e] at hle; simp at hle
      rw [decide_eq_false this]; rfl
  cases c1 : (its.toArray.isEmpty || k == 1) with
  | true =>
    refine wpAny_binaryOp_repeat_ref (T := "tuple") (U := "int") (by decide) ⟨_, ho, rfl⟩ (fun s' => typeIs_int s' k t) noFill_tuple_mul F.fills_int_mul F.slot_int_rmul repeat_tuple F.slot_int_index.lookup
      (call_meets F.slot_int_rmul (typeIs_int s k t) F.entry_int_rmul (F.args_int_rmul_2 _ _) (int_rmul_tuple k t l its.toArray n dd sl)
        ⟨ho, rfl, ⟨_, ho, rfl⟩, call_meets F.slot_tuple_mul ⟨_, ho, rfl⟩ F.entry_tuple_mul (F.args_tuple_mul_2 _ _) (tuple_mulS l its.toArray n sl k t c0 c1 dd) ⟨ho, ?_⟩⟩)
    refine ⟨.ref l, H, I, rfl, qs ?_⟩
    have e : (List.replicate k.toNat xs).flatten = xs := by
      rw [Bool.or_eq_true] at c1
      rcases c1 with c1 | c1
      · rw [hemp, decide_eq_true_eq] at c1
        subst c1
        simp
      · have : k = 1 := by simpa using c1
        subst this
        simp
    exact e
  | false =>
    have c2 : (decide (k ≤ 0) || its.toArray.isEmpty) = true := by
      rw [Bool.or_eq_false_iff] at c1
      obtain ⟨d1, d2⟩ := c1
      rw [hemp, decide_eq_false_iff_not] at d1
      have d2 : k ≠ 1 := by simpa using d2
      have : ¬ 2 ≤ k := fun z => hbig ⟨d1, z⟩
      rw [decide_eq_true (by omega)]; rfl
    refine wpAny_binaryOp_repeat_ref (T := "tuple") (U := "int") (by decide) ⟨_, ho, rfl⟩ (fun s' => typeIs_int s' k t) noFill_tuple_mul F.fills_int_mul F.slot_int_rmul repeat_tuple F.slot_int_index.lookup
      (call_meets F.slot_int_rmul (typeIs_int s k t) F.entry_int_rmul (F.args_int_rmul_2 _ _) (int_rmul_tuple k t l its.toArray n dd sl)
        ⟨ho, rfl, ⟨_, ho, rfl⟩, call_meets F.slot_tuple_mul ⟨_, ho, rfl⟩ F.entry_tuple_mul (F.args_tuple_mul_2 _ _) (tuple_mul0 l its.toArray n sl k t c0 c1 c2 dd) ⟨ho, ?_⟩⟩)
    have hne : xs ≠ [] := by
      rw [Bool.or_eq_false_iff, hemp, decide_eq_false_iff_not] at c1
      exact c1.1
    have hk : k ≤ 0 := by
      rw [Bool.or_eq_false_iff] at c1
      have d2 : k ≠ 1 := by simpa using c1.2
      have : ¬ 2 ≤ k := fun z => hbig ⟨hne, z⟩
      omega
    have e : (List.replicate k.toNat xs).flatten = [] := by
      rw [show k.toNat = 0 by omega]; rfl
    rw [e] at q
    exact laidF (its := []) I (Nat.zero_le _) .nil q
theorem op_mulA : OpR X (binaryOp .Mult) (rMulA X.K) := op_mul.or (op_repAll.or op_rep)
theorem ConT.inj {K : PySem.W.Frag} {a : Addr} {xs ys : List V} (h : ConT K a xs) (h' : ConT K a ys) : xs = ys := by
  obtain ⟨o, its, n, e, _, _, d, _, r⟩ := h
  obtain ⟨o', its', n', e', _, _, d', _, r'⟩ := h'
  rw [e] at e'; cases e'
  rw [d] at d'; injection d' with d1 _
  subst d1
  exact r.inj r'
theorem mulS : OpS G (rMulA G.K) (bop .mul) := by
  intro m H h a b x y Q E rh ra rb z
  cases a with
  | int i =>
    cases b with
    | int j =>
      rw [ra.int_of, rb.int_of]
      have z : RV G (Rep G.K) m H (if mulOk i j = true then .ok (.int (i * j)) h else .err) Q E := z
      by_cases hd : mulOk i j = true
      · rw [if_pos hd] at z
        exact .inl ⟨i, j, rfl, rfl, mulOk_of hd, z.here rh .int'⟩
      · rw [if_neg hd] at z; exact z.no
    | _ => exact z.no
  | tup xs =>
    cases b with
    | int k =>
      obtain ⟨a1, v1, rfl, s1, q1⟩ := ra.tup_of
      rw [rb.int_of]
      have z : RV G (Rep G.K) m H (if xs.length * k.toNat ≤ 1000000 ∧ k ≤ 1000000 ∧ -(2 ^ 62) < k then .ok (.tup (List.replicate k.toNat xs).flatten) h else .err) Q E := z
      by_cases hl : xs.length * k.toNat ≤ 1000000 ∧ k ≤ 1000000 ∧ -(2 ^ 62) < k
      · rw [if_pos hl] at z
        refine .inr (.inl ⟨a1, k, v1, rfl, rfl, s1.sq, by rw [← q1.len]; exact hl.1, hl.2.1, hl.2.2, fun e => ?_, z.newT rh (q1.rep _)⟩)
        have rr := q1.rep k.toNat
        rw [e] at rr
        exact z.here rh (.tup' s1 rr)
      · rw [if_neg hl] at z; exact z.no
    | _ => exact z.no
  | ref p =>
    cases b with
    | int k =>
      obtain ⟨a1, e1, rfl⟩ := ra.ref_of
      rw [rb.int_of]
      have z : RV G (Rep G.K) m H (match h[p]? with
        | some (.lst xs) => if xs.length * k.toNat ≤ lim ∧ k < 2 ^ 62 ∧ -(2 ^ 62) < k then .ok (.ref h.length) (h ++ [.lst (List.replicate k.toNat xs).flatten]) else .err
        | _ => .err) Q E := z
      split at z
      · rename_i xs hx
        split at z
        · rename_i hl
          obtain ⟨v1, f1, q1⟩ := rh.lst hx e1
          exact .inr (.inr ⟨a1, k, v1, rfl, rfl, f1, by omega, by omega, by rw [← q1.len, ← lim_eq]; exact hl.1, z.newL rh (q1.rep _)⟩)
        · exact z.no
      · exact z.no
    | _ => exact z.no
  | _ => exact z.no
end
end Ev

set_option Elab.async false
set_option linter.all false
set_option maxRecDepth 100000
/-! Ev4: comparisons, items, slices, truth, built-in functions, methods, by values. -/
namespace Ev
open PySem PySem.Spec PyProof.Rows L2
section
variable {G : GX} {m : List Addr} {H : Hp} {h : Hw} {E : XK}
/-! ### == -/
mutual
theorem dp_of : ∀ {w : W} {v : V} {d : PyData}, Rep G.K H m w v → W.toD h w = some d → Dp G.K H v d ∧ d.canLay0 = true
  | .non, v, d, r, e => by
    rw [r.non_of]; unfold W.toD at e; cases e
    exact ⟨.non, by simp [PyData.canLay0]⟩
  | .bl b, v, d, r, e => by
    rw [r.bl_of]; unfold W.toD at e; cases e
    exact ⟨.bl b, by simp [PyData.canLay0]⟩
  | .int b, v, d, r, e => by
    rw [r.int_of]; unfold W.toD at e; cases e
    exact ⟨.int b, by simp [PyData.canLay0]⟩
  | .str b, v, d, r, e => by
    rw [r.str_of]; unfold W.toD at e
    split at e
    · rename_i hs
      cases e
      exact ⟨.str b, by simpa [PyData.canLay0] using hs⟩
    · cases e
  | .tup xs, v, d, r, e => by
    obtain ⟨a, vs, rfl, s, q⟩ := r.tup_of
    unfold W.toD at e
    cases e1 : W.toDs h xs with
    | none => rw [e1] at e; cases e
    | some ds =>
      rw [e1] at e; cases e
      obtain ⟨q1, q2⟩ := dps_of q e1
      exact ⟨.tup s.sq q1, by simpa [PyData.canLay0] using q2⟩
  | .fl xs, v, d, r, e => by
    obtain ⟨a, vs, rfl, s, q⟩ := r.fl_of
    unfold W.toD at e
    cases e1 : W.toDs h xs with
    | none => rw [e1] at e; cases e
    | some ds =>
      rw [e1] at e; cases e
      obtain ⟨q1, q2⟩ := dps_of q e1
      exact ⟨.lst s.sq q1, by simpa [PyData.canLay0] using q2⟩
  | .ref n, v, d, r, e => by unfold W.toD at e; cases e
theorem dps_of : ∀ {ws : List W} {vs : List V} {ds : List PyData}, RepL G.K H m ws vs → W.toDs h ws = some ds → DpAll G.K H vs ds ∧ PyData.canLayAll0 ds = true
  | [], vs, ds, r, e => by
    unfold RepL at r; subst r
    unfold W.toDs at e; cases e
    exact ⟨.nil, by simp [PyData.canLayAll0]⟩
  | w :: ws, vs, ds, r, e => by
    obtain ⟨v, q, rfl, r1, r2⟩ := r.uncons
    unfold W.toDs at e
    cases e1 : W.toD h w with
    | none => rw [e1] at e; cases e
    | some d =>
      cases e2 : W.toDs h ws with
      | none => rw [e1, e2] at e; cases e
      | some ds' =>
        rw [e1, e2] at e; cases e
        obtain ⟨a1, a2⟩ := dp_of r1 e1
        obtain ⟨b1, b2⟩ := dps_of r2 e2
        exact ⟨.cons a1 b1, by simp [PyData.canLayAll0, a2, b2]⟩
end
theorem dp1_of {w : W} {v : V} {d : PyData} (rh : RelH G.K m H h) (r : Rep G.K H m w v) (e : W.toD1 h w = some d) : Dp G.K H v d ∧ d.canLay0 = true := by
  cases w with
  | ref n =>
    obtain ⟨a, e1, rfl⟩ := r.ref_of
    have e : (match h[n]? with | some (.lst xs) => (W.toDs h xs).map .list | _ => none) = some d := e
    split at e
    · rename_i xs hx
      obtain ⟨vs, f, q⟩ := rh.lst hx e1
      cases e3 : W.toDs h xs with
      | none => rw [e3] at e; cases e
      | some ds =>
        rw [e3] at e; cases e
        obtain ⟨q1, q2⟩ := dps_of q e3
        exact ⟨.lst (.of f) q1, by simpa [PyData.canLay0] using q2⟩
    · cases e
  | _ => exact dp_of (h := h) r e
theorem eqW_dp {a b : W} {x y : V} {k : Bool} (rh : RelH G.K m H h) (ra : Rep G.K H m a x) (rb : Rep G.K H m b y) (e : eqW a b h = some k) :
    ∃ d e, Dp G.K H x d ∧ Dp G.K H y e ∧ SeqAt.shaped d = true ∧ SeqAt.shaped e = true ∧ PyData.eqv d e = k := by
  unfold eqW at e
  split at e
  · rename_i d e' h1 h2
    split at e
    · rename_i hd
      cases e
      obtain ⟨p1, p2⟩ := dp1_of rh ra h1
      obtain ⟨q1, q2⟩ := dp1_of rh rb h2
      exact ⟨d, e', p1, q1, by unfold SeqAt.shaped; rw [p2, decide_eq_true hd.1]; rfl, by unfold SeqAt.shaped; rw [q2, decide_eq_true hd.2]; rfl, rfl⟩
    · cases e
  · cases e
theorem eqS : OpS G (rEqD G.K) (cmp .eq) := by
  intro m H h a b x y Q E rh ra rb z
  have z : RV G (Rep G.K) m H (match eqW a b h with | some k => .ok (.bl k) h | none => .err) Q E := z
  split at z
  · rename_i k hk
    obtain ⟨d, e, p1, p2, p3, p4, rfl⟩ := eqW_dp rh ra rb hk
    exact ⟨d, e, p1, p2, p3, p4, z.here rh .bl'⟩
  · exact z.no
theorem neS : OpS G (rNeD G.K) (cmp .ne) := by
  intro m H h a b x y Q E rh ra rb z
  have z : RV G (Rep G.K) m H (match eqW a b h with | some k => .ok (.bl (!k)) h | none => .err) Q E := z
  split at z
  · rename_i k hk
    obtain ⟨d, e, p1, p2, p3, p4, rfl⟩ := eqW_dp rh ra rb hk
    exact ⟨d, e, p1, p2, p3, p4, z.here rh .bl'⟩
  · exact z.no
/-- x in y, y a list or a tuple of data -/
def rInX (K : PySem.W.Frag) : R2 := fun x y H Q => ∃ d ds e, Dp K H x d ∧ Dp K H y e ∧ (e = .list ds ∨ e = .tuple ds) ∧ SeqAt.shaped d = true ∧ SeqAt.shaped e = true ∧ Q (.bl (ds.any fun z => PyData.eqv z d)) H
def rNotInX (K : PySem.W.Frag) : R2 := fun x y H Q => ∃ d ds e, Dp K H x d ∧ Dp K H y e ∧ (e = .list ds ∨ e = .tuple ds) ∧ SeqAt.shaped d = true ∧ SeqAt.shaped e = true ∧ Q (.bl (!ds.any fun z => PyData.eqv z d)) H
theorem op_inX {X : L2.Cx} (hu : X.A.units + 65 < cLine) : OpR X (compareOp .In) (rInX X.K) := by
  intro pins s σ H x y v u Q I rx ry h
  obtain ⟨d, ds, e, hd, he, hl, sd, se, q⟩ := h
  obtain ⟨as, r1⟩ := Dp.reads I d x v hd rx
  obtain ⟨bs, r2⟩ := Dp.reads I e y u he ry
  rcases hl with rfl | rfl
  · exact SeqAt.in_list_reads r2 r1 (SeqAt.canLay_of_shaped se) (SeqAt.canLay_of_shaped sd) (room_in_shaped sd hu) ⟨.bl _, H, I, rfl, q⟩
  · exact SeqAt.in_tuple_reads r2 r1 (SeqAt.canLay_of_shaped se) (SeqAt.canLay_of_shaped sd) (room_in_shaped sd hu) ⟨.bl _, H, I, rfl, q⟩
theorem op_notInX {X : L2.Cx} (hu : X.A.units + 65 < cLine) : OpR X (compareOp .NotIn) (rNotInX X.K) := by
  intro pins s σ H x y v u Q I rx ry h
  obtain ⟨d, ds, e, hd, he, hl, sd, se, q⟩ := h
  obtain ⟨as, r1⟩ := Dp.reads I d x v hd rx
  obtain ⟨bs, r2⟩ := Dp.reads I e y u he ry
  rcases hl with rfl | rfl
  · exact SeqAt.notIn_list_reads r2 r1 (SeqAt.canLay_of_shaped se) (SeqAt.canLay_of_shaped sd) (room_in_shaped sd hu) ⟨.bl _, H, I, rfl, q⟩
  · exact SeqAt.notIn_tuple_reads r2 r1 (SeqAt.canLay_of_shaped se) (SeqAt.canLay_of_shaped sd) (room_in_shaped sd hu) ⟨.bl _, H, I, rfl, q⟩
theorem inW_dp {a b : W} {x y : V} {k : Bool} (rh : RelH G.K m H h) (ra : Rep G.K H m a x) (rb : Rep G.K H m b y) (e : inW a b h = some k) :
    ∃ d ds f, Dp G.K H x d ∧ Dp G.K H y f ∧ (f = .list ds ∨ f = .tuple ds) ∧ SeqAt.shaped d = true ∧ SeqAt.shaped f = true ∧ (ds.any fun z => PyData.eqv z d) = k := by
  unfold inW at e
  split at e
  · rename_i d ds h1 h2
    split at e
    · rename_i hd
      cases e
      obtain ⟨p1, p2⟩ := dp1_of rh ra h1
      obtain ⟨q1, q2⟩ := dp1_of rh rb h2
      exact ⟨d, ds, _, p1, q1, .inl rfl, by unfold SeqAt.shaped; rw [p2, decide_eq_true hd.1]; rfl, by unfold SeqAt.shaped; rw [q2, decide_eq_true hd.2]; rfl, rfl⟩
    · cases e
  · rename_i d ds h1 h2
    split at e
    · rename_i hd
      cases e
      obtain ⟨p1, p2⟩ := dp1_of rh ra h1
      obtain ⟨q1, q2⟩ := dp1_of rh rb h2
      exact ⟨d, ds, _, p1, q1, .inr rfl, by unfold SeqAt.shaped; rw [p2, decide_eq_true hd.1]; rfl, by unfold SeqAt.shaped; rw [q2, decide_eq_true hd.2]; rfl, rfl⟩
    · cases e
  · cases e
theorem inS : OpS G (rInX G.K) (cmp .inn) := by
  intro m H h a b x y Q E rh ra rb z
  have z : RV G (Rep G.K) m H (match inW a b h with | some k => .ok (.bl k) h | none => .err) Q E := z
  split at z
  · rename_i k hk
    obtain ⟨d, e, f, p1, p2, p5, p3, p4, rfl⟩ := inW_dp rh ra rb hk
    exact ⟨d, e, f, p1, p2, p5, p3, p4, z.here rh .bl'⟩
  · exact z.no
theorem ninS : OpS G (rNotInX G.K) (cmp .nin) := by
  intro m H h a b x y Q E rh ra rb z
  have z : RV G (Rep G.K) m H (match inW a b h with | some k => .ok (.bl (!k)) h | none => .err) Q E := z
  split at z
  · rename_i k hk
    obtain ⟨d, e, f, p1, p2, p5, p3, p4, rfl⟩ := inW_dp rh ra rb hk
    exact ⟨d, e, f, p1, p2, p5, p3, p4, z.here rh .bl'⟩
  · exact z.no
theorem ordS {o : Cop} {g : Int → Int → Bool} (e1 : ∀ i j h, cmp o (.int i) (.int j) h = .ok (.bl (g i j)) h) (e2 : ∀ a b h, (∀ i j, ¬ (a = .int i ∧ b = .int j)) → cmp o a b h = .err) :
    OpS G (rI0 fun i j => .bl (g i j)) (cmp o) := by
  intro m H h a b x y Q E rh ra rb z
  by_cases hh : ∃ i j, a = .int i ∧ b = .int j
  · obtain ⟨i, j, rfl, rfl⟩ := hh
    rw [e1] at z
    rw [ra.int_of, rb.int_of]
    exact ⟨i, j, rfl, rfl, z.here rh .bl'⟩
  · rw [e2 a b h fun i j q => hh ⟨i, j, q⟩] at z
    exact z.no
theorem ltS : OpS G (rI0 fun i j => .bl (decide (i < j))) (cmp .lt) := ordS (fun _ _ _ => rfl) fun a b h q => by
  cases a with
  | int i => cases b with
    | int j => exact absurd ⟨rfl, rfl⟩ (q i j)
    | _ => rfl
  | _ => rfl
theorem leS : OpS G (rI0 fun i j => .bl (decide (i ≤ j))) (cmp .le) := ordS (fun _ _ _ => rfl) fun a b h q => by
  cases a with
  | int i => cases b with
    | int j => exact absurd ⟨rfl, rfl⟩ (q i j)
    | _ => rfl
  | _ => rfl
theorem gtS : OpS G (rI0 fun i j => .bl (decide (j < i))) (cmp .gt) := ordS (fun _ _ _ => rfl) fun a b h q => by
  cases a with
  | int i => cases b with
    | int j => exact absurd ⟨rfl, rfl⟩ (q i j)
    | _ => rfl
  | _ => rfl
theorem geS : OpS G (rI0 fun i j => .bl (decide (j ≤ i))) (cmp .ge) := ordS (fun _ _ _ => rfl) fun a b h q => by
  cases a with
  | int i => cases b with
    | int j => exact absurd ⟨rfl, rfl⟩ (q i j)
    | _ => rfl
  | _ => rfl
def isNonW (w : W) : Bool := match w with | .non => true | _ => false
theorem Rep.isNon {w : W} {v : V} (r : Rep G.K H m w v) : decide (v = .non) = isNonW w := by
  cases w with
  | non => rw [r.non_of]; rfl
  | bl b => rw [r.bl_of]; rfl
  | int b => rw [r.int_of]; rfl
  | str b => rw [r.str_of]; rfl
  | tup xs => obtain ⟨a, vs, rfl, _⟩ := r.tup_of; rfl
  | fl xs => obtain ⟨a, vs, rfl, _⟩ := r.fl_of; rfl
  | ref n => obtain ⟨a, _, rfl⟩ := r.ref_of; rfl
  | rg i j => unfold Rep at r; obtain ⟨a, rfl, _⟩ := r; rfl
/-- the right side none -/
theorem isNS {a : W} {x : V} {Q : VK} (rh : RelH G.K m H h) (ra : Rep G.K H m a x) (z : RV G (Rep G.K) m H (cmp .isN a .non h) Q E) : Q (.bl (decide (x = .non))) H := by
  rw [ra.isNon]
  exact z.here rh .bl'
theorem notNS {a : W} {x : V} {Q : VK} (rh : RelH G.K m H h) (ra : Rep G.K H m a x) (z : RV G (Rep G.K) m H (cmp .notN a .non h) Q E) : Q (.bl (!decide (x = .non))) H := by
  rw [ra.isNon]
  have e : cmp .notN a .non h = .ok (.bl (!isNonW a)) h := by
    cases a <;> rfl
  rw [e] at z
  exact z.here rh .bl'

/-! ### truth -/
theorem truS {w : W} {v : V} {k : Bool} (rh : RelH G.K m H h) (r : Rep G.K H m w v) (e : truth w h = some k) : TruV G.K v H k := by
  have emp : ∀ {xs : List W} {vs : List V}, RepL G.K H m xs vs → xs.isEmpty = vs.isEmpty := fun q => by
    have := q.len
    rename_i xs vs
    cases xs <;> cases vs <;> simp_all
  cases w with
  | non => rw [r.non_of]; cases e; rfl
  | bl b => rw [r.bl_of]; cases e; rfl
  | int i => rw [r.int_of]; cases e; rfl
  | str x => cases e
  | rg _ _ => cases e
  | tup xs =>
    obtain ⟨a, vs, rfl, s, q⟩ := r.tup_of
    cases e
    exact .inr (.inl ⟨vs, s.sq, by rw [emp q]⟩)
  | fl xs =>
    obtain ⟨a, vs, rfl, s, q⟩ := r.fl_of
    cases e
    exact .inl ⟨vs, s.sq, by rw [emp q]⟩
  | ref n =>
    obtain ⟨a, e1, rfl⟩ := r.ref_of
    have e : (match h[n]? with | some (.lst xs) => some (!xs.isEmpty) | _ => none) = some k := e
    split at e
    · rename_i xs hx
      cases e
      obtain ⟨vs, f, q⟩ := rh.lst hx e1
      exact .inl ⟨vs, .of f, by rw [emp q]⟩
    · cases e

/-! ### items and slices -/
def rItem (K : PySem.W.Frag) : R2 := fun x y H Q => rIxL K x y H Q ∨ rIxT K x y H Q
theorem itemS : OpS G (rItem G.K) item := by
  intro m H h a b x y Q E rh ra rb z
  cases b with
  | int k =>
    rw [rb.int_of]
    have z : RV G (Rep G.K) m H (match seqOf h a with
      | some xs => match ixN xs.length k with
        | some j => match xs[j]? with
          | some v => .ok v h
          | none => .err
        | none => .err
      | none => .err) Q E := z
    split at z
    · rename_i xs hx
      split at z
      · rename_i j hj
        split at z
        · rename_i w hw
          obtain ⟨p, vs, rfl, q, s⟩ := seq_of rh ra hx
          obtain ⟨v, hv, rv⟩ := q.get hw
          have at1 : atI vs k = some v := by
            unfold atI
            rw [← q.len]
            have : L2.ixN xs.length k = some j := hj
            rw [this]; exact hv
          rcases s with s | s
          · exact .inl ⟨p, vs, k, v, rfl, rfl, s, at1, z.here rh rv⟩
          · exact .inr ⟨p, vs, k, v, rfl, rfl, s, at1, z.here rh rv⟩
        · exact z.no
      · exact z.no
    · exact z.no
  | _ => exact z.no
theorem ix_item {X : Cx} : IxR X (rItem X.K) := ix_list.or ix_tup
def rSlice (K : PySem.W.Frag) : V → Option Int → Option Int → Hp → VK → Prop := fun x lo hi H Q => rSlL K x lo hi H Q ∨ rSlF K x lo hi H Q
theorem sl_slice {X : Cx} : SlR X (rSlice X.K) := sl_list.or sl_tupF
theorem RepL.cutV {xs : List W} {vs : List V} (q : RepL G.K H m xs vs) (lo hi : Option Int) : RepL G.K H m (cut xs lo hi) (L2.cutV vs lo hi) := by
  unfold cut L2.cutV
  have e : ∀ n d o, sIx n d o = HT.sIx n d o := fun n d o => by cases o <;> rfl
  rw [← q.len]
  simp only [e]
  exact (q.drop _).take _
theorem sliceS {a : W} {x : V} {lo hi : Option Int} {Q : VK} (rh : RelH G.K m H h) (ra : Rep G.K H m a x) (z : RV G (Rep G.K) m H (slice a lo hi h) Q E) : rSlice G.K x lo hi H Q := by
  cases a with
  | tup xs =>
    obtain ⟨p, vs, rfl, s, q⟩ := ra.tup_of
    have z : RV G (Rep G.K) m H (.ok (.tup (cut xs lo hi)) h) Q E := z
    refine .inr ⟨p, vs, rfl, s.sq, fun e => ?_, z.newT rh (q.cutV lo hi)⟩
    have hc : L2.cutV vs lo hi = vs := by
      unfold L2.cutV
      rw [e.1, e.2, List.drop_zero, Nat.sub_zero, List.take_length]
    have q2 := q.cutV lo hi
    rw [hc] at q2
    exact z.here rh (.tup' s q2)
  | ref n =>
    obtain ⟨p, e1, rfl⟩ := ra.ref_of
    have z : RV G (Rep G.K) m H (match h[n]? with | some (.lst xs) => .ok (.ref h.length) (h ++ [.lst (cut xs lo hi)]) | _ => .err) Q E := z
    split at z
    · rename_i xs hx
      obtain ⟨vs, f, q⟩ := rh.lst hx e1
      exact .inl ⟨p, vs, rfl, .of f, z.newL rh (q.cutV lo hi)⟩
    · exact z.no
  | _ => exact z.no
end

/-! ### built-in functions -/
section
variable {X : Cx} {G : GX}
/-- the value is of a built-in type, as isinstance sees it -/
def TyV (K : PySem.W.Frag) (H : Hp) : V → String → Prop
  | .non, t => t = "NoneType"
  | .bl _, t => t = "bool"
  | .int _, t => t = "int"
  | .str _, t => t = "str"
  | .ref p, t => (t = "list" ∧ ∃ xs, SqL K H p xs) ∨ (t = "tuple" ∧ ∃ xs, SqT K H p xs)
  | _, _ => False
def rIsA (K : PySem.W.Frag) : List V → Hp → VK → Prop := fun xs H Q => ∃ x T t b, xs = [x, .ty T] ∧ TyV K H x t ∧ kitB t T = some b ∧ Q (.bl b) H
theorem call_isA : CallR X (.builtin "isinstance") (rIsA X.K) := by
  intro pins s σ H xs us Q I r hh
  obtain ⟨x, T, t, b, rfl, ty, e, q⟩ := hh
  obtain ⟨u1, u2, rfl, r1, r2⟩ := vals2 r
  cases (show u2 = Value.type T from r2)
  have e' : PySem.W.kitOne X.K (.type t) (.type T) = some b := kit_ty e
  have fin : ∀ tk, EP X pins σ Q (.bool b) { s with toks := tk } := fun tk => ⟨.bl b, H, I.tok tk, rfl, q⟩
  cases x with
  | non => cases (show t = _ from ty); cases (show u1 = Value.none from r1); exact PySem.W.kia_one PySem.W.kitx_none I.kIn True.intro e' (fun z => nomatch z) fin
  | bl y => cases (show t = _ from ty); cases (show u1 = Value.bool y from r1); exact PySem.W.kia_one PySem.W.kitx_bool I.kIn True.intro e' (fun z => nomatch z) fin
  | int i => cases (show t = _ from ty); obtain ⟨t, q⟩ := (show ∃ t, u1 = Value.int i t from r1); cases q; exact PySem.W.kia_one PySem.W.kitx_int I.kIn True.intro e' (fun z => nomatch z) fin
  | str y => cases (show t = _ from ty); obtain ⟨t, q⟩ := (show ∃ t, u1 = Value.str y t from r1); cases q; exact PySem.W.kia_one PySem.W.kitx_str I.kIn True.intro e' (fun z => nomatch z) fin
  | ref p =>
    cases (show u1 = Value.ref p from r1)
    rcases (show (t = "list" ∧ ∃ xs, SqL X.K H p xs) ∨ (t = "tuple" ∧ ∃ xs, SqT X.K H p xs) from ty) with ⟨rfl, xs, hs⟩ | ⟨rfl, xs, hs⟩
    · obtain ⟨its, _, ⟨o, n, ho, hc, _⟩, _⟩ := I.list hs
      exact PySem.W.kia_one PySem.W.kitx_list I.kIn ⟨o, ho, hc⟩ e' (fun z => nomatch z) fin
    · obtain ⟨its, _, ⟨o, ho, hc, _⟩, _⟩ := I.tuple hs
      exact PySem.W.kia_one PySem.W.kitx_tuple I.kIn ⟨o, ho, hc⟩ e' (fun z => nomatch z) fin
  | _ => exact (show False from ty).elim
def Ty.nm : Ty → String
  | .int => "int" | .bool => "bool" | .str => "str" | .tup => "tuple" | .lst => "list"
def isLstT (t : Ty) : Bool := match t with | .lst => true | _ => false
theorem isTyS {m : List Addr} {H : Hp} {h : Hw} {w : W} {v : V} {t : Ty} {k : Bool} (rh : RelH G.K m H h) (r : Rep G.K H m w v) (e : isTy w t h = some k) : ∃ T, TyV G.K H v T ∧ kitB T t.nm = some k := by
  cases w with
  | rg _ _ => cases e
  | non =>
    rw [r.non_of]
    refine ⟨"NoneType", rfl, ?_⟩
    cases e
    cases t <;> decide +kernel
  | bl b =>
    rw [r.bl_of]
    refine ⟨"bool", rfl, ?_⟩
    cases t <;> (cases e; decide +kernel)
  | int b =>
    rw [r.int_of]
    refine ⟨"int", rfl, ?_⟩
    cases t <;> (cases e; decide +kernel)
  | str b =>
    rw [r.str_of]
    refine ⟨"str", rfl, ?_⟩
    cases t <;> (cases e; decide +kernel)
  | tup xs =>
    obtain ⟨a, vs, rfl, s, q⟩ := r.tup_of
    refine ⟨"tuple", .inr ⟨rfl, vs, s.sq⟩, ?_⟩
    cases t <;> (cases e; decide +kernel)
  | fl xs =>
    obtain ⟨a, vs, rfl, s, q⟩ := r.fl_of
    refine ⟨"list", .inl ⟨rfl, vs, s.sq⟩, ?_⟩
    cases t <;> (cases e; decide +kernel)
  | ref n =>
    obtain ⟨a, e1, rfl⟩ := r.ref_of
    have e : (match h[n]? with | some (.lst _) => some (isLstT t) | _ => none) = some k := e
    split at e
    · rename_i xs hx
      obtain ⟨vs, f, q⟩ := rh.lst hx e1
      refine ⟨"list", .inl ⟨rfl, vs, .of f⟩, ?_⟩
      cases t <;> (cases e; decide +kernel)
    · cases e
def rLcm : List V → Hp → VK → Prop := fun vs H Q => ∃ a b : Int, vs = [.int a, .int b] ∧ a.natAbs < 2 ^ 64 ∧ b.natAbs < 2 ^ 64 ∧ Q (.int ((a.natAbs.lcm b.natAbs : Nat) : Int)) H
theorem cr_lcm : CallR X (.builtin "math.lcm") rLcm := by
  intro pins s σ H vs us Q I r hh
  obtain ⟨a, b, rfl, h1, h2, q⟩ := hh
  obtain ⟨u1, u2, rfl, ⟨t, rfl⟩, ⟨t', rfl⟩⟩ := vals2 r
  exact PySem.W.mc_lcm h1 h2 fun _ => ⟨.int _, H, I.tok _, ⟨_, rfl⟩, q⟩
def rDvm : List V → Hp → VK → Prop := fun xs H Q => ∃ i j, xs = [.int i, .int j] ∧ CDivP i j ∧ NewT [.int (i / j), .int (i % j)] H Q

/-- what a call by values is -/
def CallS (G : GX) (r : List V → Hp → VK → Prop) (sem : List W → Hw → Res W) : Prop :=
  ∀ (m : List Addr) (H : Hp) (h : Hw) (ws : List W) (vs : List V) (Q : VK) (E : XK), RelH G.K m H h → RepL G.K H m ws vs → RV G (Rep G.K) m H (sem ws h) Q E → r vs H Q
theorem absS : CallS G (fun xs H Q => ∃ i, xs = [.int i] ∧ Q (.int (if i < 0 then -i else i)) H) (bi .abs) := by
  intro m H h ws vs Q E rh r z
  match ws with
  | [] => exact z.no
  | [.int i] =>
    obtain ⟨v, rfl, r1⟩ := r.one
    rw [r1.int_of]
    exact ⟨i, rfl, z.here rh .int'⟩
  | [.non] => exact z.no
  | [.bl _] => exact z.no
  | [.str _] => exact z.no
  | [.tup _] => exact z.no
  | [.fl _] => exact z.no
  | [.ref _] => exact z.no
  | a :: b :: c => cases a <;> exact z.no
theorem toIntS : CallS G (fun xs H Q => (∃ i, xs = [.int i] ∧ Q (.int i) H) ∨ ∃ k, xs = [.bl k] ∧ Q (.int (if k then 1 else 0)) H) (bi .toInt) := by
  intro m H h ws vs Q E rh r z
  match ws with
  | [] => exact z.no
  | [.int i] =>
    obtain ⟨v, rfl, r1⟩ := r.one
    rw [r1.int_of]
    exact .inl ⟨i, rfl, z.here rh .int'⟩
  | [.bl b] =>
    obtain ⟨v, rfl, r1⟩ := r.one
    rw [r1.bl_of]
    exact .inr ⟨b, rfl, z.here rh .int'⟩
  | [.non] => exact z.no
  | [.str _] => exact z.no
  | [.tup _] => exact z.no
  | [.fl _] => exact z.no
  | [.ref _] => exact z.no
  | a :: b :: c => cases a <;> exact z.no
theorem two_ints {f : Bi} {r : List V → Hp → VK → Prop} {sem : Int → Int → Hw → Res W} (e1 : ∀ i j h, bi f [.int i, .int j] h = sem i j h) (e2 : ∀ ws h, (∀ i j, ws ≠ [.int i, .int j]) → bi f ws h = .err)
    (hs : ∀ (m : List Addr) (H : Hp) (h : Hw) (i j : Int) (Q : VK) (E : XK), RelH G.K m H h → RV G (Rep G.K) m H (sem i j h) Q E → r [.int i, .int j] H Q) : CallS G r (bi f) := by
  intro m H h ws vs Q E rh rr z
  by_cases hh : ∃ i j, ws = [.int i, .int j]
  · obtain ⟨i, j, rfl⟩ := hh
    obtain ⟨v, u, rfl, r1, r2⟩ := rr.two
    rw [r1.int_of, r2.int_of]
    rw [e1] at z
    exact hs m H h i j Q E rh z
  · rw [e2 ws h fun i j q => hh ⟨i, j, q⟩] at z
    exact z.no
theorem not2 {f : Bi} (hf : f = .max2 ∨ f = .min2 ∨ f = .divmod ∨ f = .lcm ∨ f = .gcd) : ∀ ws h, (∀ i j, ws ≠ [.int i, .int j]) → bi f ws h = .err := by
  intro ws h q
  match ws with
  | [] => rcases hf with rfl | rfl | rfl | rfl | rfl <;> rfl
  | [a] => rcases hf with rfl | rfl | rfl | rfl | rfl <;> (cases a <;> rfl)
  | [a, b] =>
    cases a with
    | int i =>
      cases b with
      | int j => exact absurd rfl (q i j)
      | _ => rcases hf with rfl | rfl | rfl | rfl | rfl <;> rfl
    | _ => rcases hf with rfl | rfl | rfl | rfl | rfl <;> rfl
  | a :: b :: c :: d =>
    cases a with
    | int i => cases b <;> (rcases hf with rfl | rfl | rfl | rfl | rfl <;> rfl)
    | _ => rcases hf with rfl | rfl | rfl | rfl | rfl <;> rfl
theorem max2S : CallS G (fun xs H Q => ∃ i j, xs = [.int i, .int j] ∧ Q (.int (if j > i then j else i)) H) (bi .max2) :=
  two_ints (sem := fun i j h => .ok (.int (if j > i then j else i)) h) (fun _ _ _ => rfl) (not2 (by simp)) fun m H h i j Q E rh z => ⟨i, j, rfl, z.here rh .int'⟩
theorem min2S : CallS G (fun xs H Q => ∃ i j, xs = [.int i, .int j] ∧ Q (.int (if j < i then j else i)) H) (bi .min2) :=
  two_ints (sem := fun i j h => .ok (.int (if j < i then j else i)) h) (fun _ _ _ => rfl) (not2 (by simp)) fun m H h i j Q E rh z => ⟨i, j, rfl, z.here rh .int'⟩
theorem gcdS : CallS G rGcd (bi .gcd) :=
  two_ints (sem := fun i j h => .ok (.int ((i.natAbs.gcd j.natAbs : Nat) : Int)) h) (fun _ _ _ => rfl) (not2 (by simp)) fun m H h i j Q E rh z => ⟨i, j, rfl, z.here rh .int'⟩
theorem lcmS : CallS G rLcm (bi .lcm) :=
  two_ints (sem := fun i j h => if i.natAbs < 18446744073709551616 ∧ j.natAbs < 18446744073709551616 then .ok (.int ((i.natAbs.lcm j.natAbs : Nat) : Int)) h else .err) (fun _ _ _ => rfl) (not2 (by simp)) fun m H h i j Q E rh z => by
    have z : RV G (Rep G.K) m H (if i.natAbs < 18446744073709551616 ∧ j.natAbs < 18446744073709551616 then .ok (.int ((i.natAbs.lcm j.natAbs : Nat) : Int)) h else .err) Q E := z
    split at z
    · rename_i hh
      exact ⟨i, j, rfl, by omega, by omega, z.here rh .int'⟩
    · exact z.no
theorem dvmS : CallS G rDvm (bi .divmod) :=
  two_ints (sem := fun i j h => if divOk j = true then .ok (.tup [.int (i / j), .int (i % j)]) h else .err) (fun _ _ _ => rfl) (not2 (by simp)) fun m H h i j Q E rh z => by
    have z : RV G (Rep G.K) m H (if divOk j = true then .ok (.tup [.int (i / j), .int (i % j)]) h else .err) Q E := z
    split at z
    · rename_i hd
      unfold divOk at hd
      rw [Bool.and_eq_true, decide_eq_true_eq, decide_eq_true_eq] at hd
      exact ⟨i, j, rfl, ⟨hd.1, PyProof.noPylong_of_log2 (wide_div (i := i) (b := 200) hd.1 (by omega) (by decide) (by decide)).2⟩, z.newT rh (.cons .int' (.cons .int' .nil))⟩
    · exact z.no
end
end Ev

set_option Elab.async false
set_option linter.all false
set_option maxRecDepth 100000
/-! Ev5: built-in functions of a sequence, methods, stores, by values. -/
namespace Ev
open PySem PySem.Spec PyProof.Rows L2
section
variable {G : GX} {m : List Addr} {H : Hp} {h : Hw} {E : XK}
/-- the items of what stands at v -/
def Src (K : PySem.W.Frag) (H : Hp) (m : List Addr) (q : List W × Gu × Bool) (v : V) : Prop :=
  ∃ a vs, v = .ref a ∧ RepL K H m q.1 vs ∧ ((StT K H m a vs ∧ q.2.2 = true) ∨ (q.2.2 = false ∧ (StL K H m a vs ∨ Air H m a vs ∨ ∃ n, m[n]? = some a ∧ H a = some (.lst vs) ∧ q.2.1 = [(n, q.1)])))
theorem Src.sq {q : List W × Gu × Bool} {v : V} (s : Src G.K H m q v) : ∃ a vs, v = .ref a ∧ RepL G.K H m q.1 vs ∧ (SqL G.K H a vs ∨ SqT G.K H a vs) := by
  obtain ⟨a, vs, e, r, s⟩ := s
  rcases s with ⟨s, _⟩ | ⟨_, s | s | ⟨n, _, s, _⟩⟩
  · exact ⟨a, vs, e, r, .inr s.sq⟩
  · exact ⟨a, vs, e, r, .inl s.sq⟩
  · exact ⟨a, vs, e, r, .inl (.of s.1)⟩
  · exact ⟨a, vs, e, r, .inl (.of s)⟩
theorem Src.mono {m' : List Addr} {H' : Hp} {h' : Hw} {q : List W × Gu × Bool} {v : V} (x : Nx m H m' H') (rh : RelH G.K m' H' h') (g : guOk q.2.1 h') (s : Src G.K H m q v) : Src G.K H' m' q v := by
  obtain ⟨a, vs, e, r, s⟩ := s
  rcases s with ⟨s, k⟩ | ⟨k, s | s | ⟨n, e1, s, e2⟩⟩
  · exact ⟨a, vs, e, r.mono x, .inl ⟨s.mono x, k⟩⟩
  · exact ⟨a, vs, e, r.mono x, .inr ⟨k, .inl (s.mono x)⟩⟩
  · exact ⟨a, vs, e, r.mono x, .inr ⟨k, .inr (.inl (s.mono x))⟩⟩
  · have hl : h'[n]? = some (.lst q.1) := g (n, q.1) (by rw [e2]; exact List.mem_cons_self)
    obtain ⟨vs', f, r'⟩ := rh.lst hl (x.get e1)
    exact ⟨a, vs', e, r', .inr ⟨k, .inr (.inr ⟨n, x.get e1, f, e2⟩)⟩⟩
theorem src_val {w : W} {v : V} {xs : List W} (rh : RelH G.K m H h) (r : Rep G.K H m w v) (e : seqOf h w = some xs) : Src G.K H m (xs, guOf w xs, isTup w) v := by
  cases w with
  | tup ys =>
    obtain ⟨a, vs, e1, s, q⟩ := r.tup_of
    cases (show some ys = some xs from e)
    exact ⟨a, vs, e1, q, .inl ⟨s, rfl⟩⟩
  | fl ys =>
    obtain ⟨a, vs, e1, s, q⟩ := r.fl_of
    cases (show some ys = some xs from e)
    exact ⟨a, vs, e1, q, .inr ⟨rfl, .inl s⟩⟩
  | ref n =>
    obtain ⟨a, e1, e2⟩ := r.ref_of
    have e : (match h[n]? with | some (.lst xs) => some xs | _ => none) = some xs := e
    split at e
    · rename_i ys hy
      cases e
      obtain ⟨vs, e3, q⟩ := rh.lst hy e1
      exact ⟨a, vs, e2, q, .inr ⟨rfl, .inr (.inr ⟨n, e1, e3, rfl⟩)⟩⟩
    · cases e
  | _ => cases e
/-- a list just made -/
theorem src_new {xs : List W} {vs : List V} (r : RepL G.K H m xs vs) (rh : RelH G.K m H h) {p : Addr} (hp : H p = none) : Src G.K (upd H p (.lst vs)) m (xs, [], false) (.ref p) :=
  ⟨p, vs, rfl, r.mono (Nx.laid hp), .inr ⟨rfl, .inr (.inl ⟨upd_same, rh.free hp⟩)⟩⟩
theorem ints_of : ∀ {ws : List W} {vs : List V} {ns : List Int}, RepL G.K H m ws vs → toInts ws = some ns → vs = ns.map V.int
  | [], vs, ns, r, e => by
    unfold RepL at r; subst r
    cases e; rfl
  | w :: ws, vs, ns, r, e => by
    obtain ⟨v, q, rfl, r1, r2⟩ := r.uncons
    cases w with
    | int i =>
      have e : (toInts ws).map (i :: ·) = some ns := e
      cases e1 : toInts ws with
      | none => rw [e1] at e; cases e
      | some ms =>
        rw [e1] at e; cases e
        rw [r1.int_of, ints_of r2 e1]; rfl
    | _ => cases e
theorem repL_ints : ∀ ns : List Int, RepL G.K H m (ns.map .int) (ns.map V.int)
  | [] => .nil
  | n :: ns => .cons .int' (repL_ints ns)
/-- a call of one sequence -/
def LcS (G : GX) (r : List V → Hp → VK → Prop) (sem : List W → Hw → Res W) : Prop :=
  ∀ (m : List Addr) (H : Hp) (h : Hw) (a : Addr) (ws : List W) (vs : List V) (Q : VK) (E : XK), RelH G.K m H h → RepL G.K H m ws vs → (StT G.K H m a vs ∨ SqL G.K H a vs) → RV G (Rep G.K) m H (sem ws h) Q E → r [.ref a] H Q
theorem lcS_at {r : List V → Hp → VK → Prop} {sem : List W → Hw → Res W} (l : LcS G r sem) {q : List W × Gu × Bool} {v : V} {Q : VK} (rh : RelH G.K m H h) (s : Src G.K H m q v) (z : RV G (Rep G.K) m H (sem q.1 h) Q E) : r [v] H Q := by
  obtain ⟨a, vs, rfl, r, s⟩ := s
  rcases s with ⟨s, _⟩ | ⟨_, s | s | ⟨n, _, s, _⟩⟩
  · exact l m H h a q.1 vs Q E rh r (.inl s) z
  · exact l m H h a q.1 vs Q E rh r (.inr s.sq) z
  · exact l m H h a q.1 vs Q E rh r (.inr (.of s.1)) z
  · exact l m H h a q.1 vs Q E rh r (.inr (.of s)) z
end
section
variable {X : Cx} {G : GX}
def rSumA (K : PySem.W.Frag) : List V → Hp → VK → Prop := fun vs H Q => ∃ (a : Addr) (ns : List Int), vs = [V.ref a] ∧ (SqL K H a (ns.map V.int) ∨ SqT K H a (ns.map V.int)) ∧ Q (.int ns.sum) H
theorem cr_sumA (hc : X.calm = true) : CallR X (.builtin "sum") (rSumA X.K) := by
  intro pins s σ H vs us Q I r hh
  obtain ⟨a, ns, rfl, hs, q⟩ := hh
  rcases hs with hs | hs
  · exact cr_sum hc pins s σ H _ us Q I r ⟨a, ns, rfl, hs, q⟩
  · obtain ⟨its, rv, hl, _⟩ := I.tuple hs
    rw [Vals.ref1 r]
    have hi := rv.ints
    obtain ⟨xs, hx⟩ := hi.allInts.items
    have hn : numsOf its.toArray.toList = ns := by rw [show its.toArray.toList = its from rfl, hi.numsOf]
    rw [hx] at hl hn
    rw [nums_intItems] at hn
    refine PySem.W.ktm_sumG (I.ok.hd hc) hl fun h' tk t' hk => ?_
    rw [preSum_eq, List.take_of_length_le (by simp), hn]
    exact ⟨.int _, H, I.kept hk, ⟨_, rfl⟩, q⟩
theorem sumS : LcS G (rSumA G.K) (bl .sum) := by
  intro m H h a ws vs Q E rh r s z
  have z : RV G (Rep G.K) m H (match toInts ws with | some ns => .ok (.int ns.sum) h | none => .err) Q E := z
  split at z
  · rename_i ns hn
    have e := ints_of r hn
    subst e
    exact ⟨a, ns, rfl, s.elim (fun x => .inr x.sq) .inl, z.here rh .int'⟩
  · exact z.no
theorem maxL_ge : ∀ (xs : List Int) (b : Int), b ≤ xs.foldl (fun m y => if y > m then y else m) b ∧ (∀ y ∈ xs, y ≤ xs.foldl (fun m y => if y > m then y else m) b) ∧ (xs.foldl (fun m y => if y > m then y else m) b = b ∨ xs.foldl (fun m y => if y > m then y else m) b ∈ xs)
  | [], b => ⟨Int.le_refl _, by simp, .inl rfl⟩
  | x :: xs, b => by
    obtain ⟨h1, h2, h3⟩ := maxL_ge xs (if x > b then x else b)
    have hb : b ≤ (if x > b then x else b) := by split <;> omega
    have hx : x ≤ (if x > b then x else b) := by split <;> omega
    refine ⟨Int.le_trans hb h1, fun y hy => ?_, ?_⟩
    · rcases List.mem_cons.mp hy with rfl | hy
      · exact Int.le_trans hx h1
      · exact h2 y hy
    · show _ ∨ _
      simp only [List.foldl_cons]
      rcases h3 with h3 | h3
      · rw [h3]
        split
        · exact .inr List.mem_cons_self
        · exact .inl rfl
      · exact .inr (List.mem_cons_of_mem _ h3)
theorem minL_le : ∀ (xs : List Int) (b : Int), xs.foldl (fun m y => if y < m then y else m) b ≤ b ∧ (∀ y ∈ xs, xs.foldl (fun m y => if y < m then y else m) b ≤ y) ∧ (xs.foldl (fun m y => if y < m then y else m) b = b ∨ xs.foldl (fun m y => if y < m then y else m) b ∈ xs)
  | [], b => ⟨Int.le_refl _, by simp, .inl rfl⟩
  | x :: xs, b => by
    obtain ⟨h1, h2, h3⟩ := minL_le xs (if x < b then x else b)
    have hb : (if x < b then x else b) ≤ b := by split <;> omega
    have hx : (if x < b then x else b) ≤ x := by split <;> omega
    refine ⟨Int.le_trans h1 hb, fun y hy => ?_, ?_⟩
    · rcases List.mem_cons.mp hy with rfl | hy
      · exact Int.le_trans h1 hx
      · exact h2 y hy
    · show _ ∨ _
      simp only [List.foldl_cons]
      rcases h3 with h3 | h3
      · rw [h3]
        split
        · exact .inr List.mem_cons_self
        · exact .inl rfl
      · exact .inr (List.mem_cons_of_mem _ h3)
theorem maxL_uniq {n : Int} {ns : List Int} {M : Int} (h1 : M ∈ n :: ns) (h2 : ∀ y ∈ n :: ns, y ≤ M) : M = maxL (n :: ns) := by
  obtain ⟨a1, a2, a3⟩ := maxL_ge ns n
  have b1 : maxL (n :: ns) ∈ n :: ns := by
    rcases a3 with a3 | a3
    · exact List.mem_cons.mpr (.inl a3)
    · exact List.mem_cons_of_mem _ a3
  have b2 : M ≤ maxL (n :: ns) := by
    rcases List.mem_cons.mp h1 with rfl | h1
    · exact a1
    · exact a2 M h1
  exact Int.le_antisymm b2 (h2 _ b1)
theorem minL_uniq {n : Int} {ns : List Int} {M : Int} (h1 : M ∈ n :: ns) (h2 : ∀ y ∈ n :: ns, M ≤ y) : M = minL (n :: ns) := by
  obtain ⟨a1, a2, a3⟩ := minL_le ns n
  have b1 : minL (n :: ns) ∈ n :: ns := by
    rcases a3 with a3 | a3
    · exact List.mem_cons.mpr (.inl a3)
    · exact List.mem_cons_of_mem _ a3
  have b2 : minL (n :: ns) ≤ M := by
    rcases List.mem_cons.mp h1 with rfl | h1
    · exact a1
    · exact a2 M h1
  exact Int.le_antisymm (h2 _ b1) b2
def rMaxT (K : PySem.W.Frag) : List V → Hp → VK → Prop := fun vs H Q => ∃ (a : Addr) (ns : List Int), vs = [V.ref a] ∧ (SqL K H a (ns.map V.int) ∨ SqT K H a (ns.map V.int)) ∧ 0 < ns.length ∧ ∀ m, m ∈ ns → (∀ y, y ∈ ns → y ≤ m) → Q (.int m) H
def rMinT (K : PySem.W.Frag) : List V → Hp → VK → Prop := fun vs H Q => ∃ (a : Addr) (ns : List Int), vs = [V.ref a] ∧ (SqL K H a (ns.map V.int) ∨ SqT K H a (ns.map V.int)) ∧ 0 < ns.length ∧ ∀ m, m ∈ ns → (∀ y, y ∈ ns → m ≤ y) → Q (.int m) H
theorem tup_old {s : Shared} {l : Addr} {h' : Heap} (hk : ∀ b o, b ∉ [s.heap.objs.size] → (s.heap.push { cls := .type "tuple_iterator", data := .fields #[.ref l, .int 0 0] }).get? b = some o → h'.get? b = some o) :
    ∀ b o, s.heap.get? b = some o → h'.get? b = some o := fun b o e => by
  refine hk b o (fun hm => ?_) (Heap.get?_push_of_some _ e)
  rcases List.mem_cons.mp hm with e1 | hm
  · exact absurd (e1 ▸ Heap.lt_size e) (Nat.lt_irrefl _)
  · cases hm
theorem max_intTup {prog : Program} {w : World} {A : Around} {E : Value → Shared → Prop} {s : Shared} {t : Addr} {xs : Array (Int × Tok)} {Q : Value → Shared → Prop} (hh : A.handled = none) (ht : s.heap.IsTuple t (intItems xs)) (hne : 0 < xs.size)
    (h : ∀ v h' tk, (intItems xs)[argBest (fun i j => decide (numAt xs i > numAt xs j)) (xs.size - 1)]? = some v → (∀ b o, s.heap.get? b = some o → h'.get? b = some o) → Q v { s with heap := h', toks := tk }) :
    wpAny (model prog w) A (call (.builtin "max") [.ref t]) Q E s := by
  obtain ⟨o, ho, hc, n, hd⟩ := id ht
  have hne' : t ≠ s.heap.objs.size := Nat.ne_of_lt (Heap.lt_size ho)
  refine call_max_walk (wpAny_pyIter_tuple ht ?_)
  refine ⟨_, _, _, _, _, _, _, rfl, Walks.tuple (A := A.in1) hh _ t hne' (intItems xs), ⟨⟨_, Heap.get?_push_size _ rfl, rfl, rfl⟩, ht.at fun o e => Heap.get?_push_of_some _ e⟩, fun b hb => ?_, by simpa [intItems] using hne, CmpOf.ints_gt (numAt xs) (fun _ _ => intItems_at), fun v h' tk hP hk => ?_⟩
  · rcases List.mem_cons.mp hb with rfl | hb
    · exact Heap.lt_size (Heap.get?_push_size _ rfl)
    · obtain rfl := List.mem_singleton.mp hb
      exact Heap.lt_size (Heap.get?_push_of_some _ ho)
  · exact h v h' tk (by simpa [intItems] using hP) (tup_old hk)
theorem min_intTup {prog : Program} {w : World} {A : Around} {E : Value → Shared → Prop} {s : Shared} {t : Addr} {xs : Array (Int × Tok)} {Q : Value → Shared → Prop} (hh : A.handled = none) (ht : s.heap.IsTuple t (intItems xs)) (hne : 0 < xs.size)
    (h : ∀ v h' tk, (intItems xs)[argBest (fun i j => decide (numAt xs i < numAt xs j)) (xs.size - 1)]? = some v → (∀ b o, s.heap.get? b = some o → h'.get? b = some o) → Q v { s with heap := h', toks := tk }) :
    wpAny (model prog w) A (call (.builtin "min") [.ref t]) Q E s := by
  obtain ⟨o, ho, hc, n, hd⟩ := id ht
  have hne' : t ≠ s.heap.objs.size := Nat.ne_of_lt (Heap.lt_size ho)
  refine call_min_walk (wpAny_pyIter_tuple ht ?_)
  refine ⟨_, _, _, _, _, _, _, rfl, Walks.tuple (A := A.in1) hh _ t hne' (intItems xs), ⟨⟨_, Heap.get?_push_size _ rfl, rfl, rfl⟩, ht.at fun o e => Heap.get?_push_of_some _ e⟩, fun b hb => ?_, by simpa [intItems] using hne, CmpOf.ints_lt (numAt xs) (fun _ _ => intItems_at), fun v h' tk hP hk => ?_⟩
  · rcases List.mem_cons.mp hb with rfl | hb
    · exact Heap.lt_size (Heap.get?_push_size _ rfl)
    · obtain rfl := List.mem_singleton.mp hb
      exact Heap.lt_size (Heap.get?_push_of_some _ ho)
  · exact h v h' tk (by simpa [intItems] using hP) (tup_old hk)
theorem cr_maxA (hc : X.calm = true) : CallR X (.builtin "max") (rMaxT X.K) := by
  intro pins s σ H vs us Q I r hh
  obtain ⟨a, ns, rfl, hs, hne, q⟩ := hh
  rcases hs with hs | hs
  · exact cr_max hc pins s σ H _ us Q I r ⟨a, ns, rfl, hs, hne, q⟩
  · obtain ⟨its, rv, hl, _⟩ := I.tuple hs
    rw [Vals.ref1 r]
    obtain ⟨xs, e⟩ := rv.ints.allInts.items
    have hn : numsOf (intItems xs).toList = ns := by rw [← e]; exact rv.ints.numsOf
    rw [nums_intItems] at hn
    subst hn
    rw [e] at hl
    have hsz : 0 < xs.size := by simpa using hne
    refine max_intTup (I.ok.hd hc) hl hsz fun v h' tk hv hk => ?_
    obtain ⟨t, rfl⟩ := intItems_at hv
    obtain ⟨h1, h2⟩ := argBest_gt (numAt xs) (xs.size - 1)
    refine ⟨.int _, H, I.kept hk, ⟨_, rfl⟩, q _ ?_ fun a ha => ?_⟩
    · rw [numAt_eq]; exact PySem.getD_mem (by rw [List.length_map, Array.length_toList]; omega)
    · obtain ⟨j, hj, rfl⟩ := mem_getD ha
      rw [List.length_map, Array.length_toList] at hj
      rw [← numAt_eq]; exact h2 j (by omega)
theorem cr_minA (hc : X.calm = true) : CallR X (.builtin "min") (rMinT X.K) := by
  intro pins s σ H vs us Q I r hh
  obtain ⟨a, ns, rfl, hs, hne, q⟩ := hh
  rcases hs with hs | hs
  · exact cr_min hc pins s σ H _ us Q I r ⟨a, ns, rfl, hs, hne, q⟩
  · obtain ⟨its, rv, hl, _⟩ := I.tuple hs
    rw [Vals.ref1 r]
    obtain ⟨xs, e⟩ := rv.ints.allInts.items
    have hn : numsOf (intItems xs).toList = ns := by rw [← e]; exact rv.ints.numsOf
    rw [nums_intItems] at hn
    subst hn
    rw [e] at hl
    have hsz : 0 < xs.size := by simpa using hne
    refine min_intTup (I.ok.hd hc) hl hsz fun v h' tk hv hk => ?_
    obtain ⟨t, rfl⟩ := intItems_at hv
    obtain ⟨h1, h2⟩ := argBest_lt (numAt xs) (xs.size - 1)
    refine ⟨.int _, H, I.kept hk, ⟨_, rfl⟩, q _ ?_ fun a ha => ?_⟩
    · rw [numAt_eq]; exact PySem.getD_mem (by rw [List.length_map, Array.length_toList]; omega)
    · obtain ⟨j, hj, rfl⟩ := mem_getD ha
      rw [List.length_map, Array.length_toList] at hj
      rw [← numAt_eq]; exact h2 j (by omega)
theorem maxS : LcS G (rMaxT G.K) (bl .max) := by
  intro m H h a ws vs Q E rh r s z
  have z : RV G (Rep G.K) m H (match toInts ws with | some (n :: ns) => .ok (.int (maxL (n :: ns))) h | _ => .err) Q E := z
  split at z
  · rename_i n ns hn
    have e := ints_of r hn
    subst e
    exact ⟨a, n :: ns, rfl, s.elim (fun x => .inr x.sq) .inl, by simp, fun M h1 h2 => by rw [maxL_uniq h1 h2]; exact z.here rh .int'⟩
  · exact z.no
theorem minS : LcS G (rMinT G.K) (bl .min) := by
  intro m H h a ws vs Q E rh r s z
  have z : RV G (Rep G.K) m H (match toInts ws with | some (n :: ns) => .ok (.int (minL (n :: ns))) h | _ => .err) Q E := z
  split at z
  · rename_i n ns hn
    have e := ints_of r hn
    subst e
    exact ⟨a, n :: ns, rfl, s.elim (fun x => .inr x.sq) .inl, by simp, fun M h1 h2 => by rw [minL_uniq h1 h2]; exact z.here rh .int'⟩
  · exact z.no
def rTupA (K : PySem.W.Frag) : List V → Hp → VK → Prop := fun xs H Q => ∃ p ys, xs = [.ref p] ∧ ((SqL K H p ys ∧ NewT ys H Q) ∨ (SqT K H p ys ∧ Q (.ref p) H))
theorem tupleS : LcS G (rTupA G.K) (bl .tuple) := by
  intro m H h a ws vs Q E rh r s z
  have z : RV G (Rep G.K) m H (.ok (.tup ws) h) Q E := z
  rcases s with s | s
  · exact ⟨a, vs, rfl, .inr ⟨s.sq, z.here rh (.tup' s r)⟩⟩
  · exact ⟨a, vs, rfl, .inl ⟨s, z.newT rh r⟩⟩
theorem listS : LcS G (fun xs H Q => ∃ p ys, xs = [.ref p] ∧ (SqL G.K H p ys ∨ SqT G.K H p ys) ∧ ∀ l, H l = none → Q (.ref l) (upd H l (.lst ys))) (bl .list) := by
  intro m H h a ws vs Q E rh r s z
  have z : RV G (Rep G.K) m H (.ok (.ref h.length) (h ++ [.lst ws])) Q E := z
  exact ⟨a, vs, rfl, s.elim (fun x => .inr x.sq) .inl, z.newL rh r⟩
theorem lenS : LcS G (fun xs H Q => ∃ p ys, xs = [.ref p] ∧ (SqL G.K H p ys ∨ SqT G.K H p ys) ∧ Q (.int ys.length) H) (bl .len) := by
  intro m H h a ws vs Q E rh r s z
  have z : RV G (Rep G.K) m H (.ok (.int ws.length) h) Q E := z
  refine ⟨a, vs, rfl, s.elim (fun x => .inr x.sq) .inl, ?_⟩
  rw [← r.len]
  exact z.here rh .int'
theorem ins_perm (x : Int) : ∀ ys : List Int, (ins x ys).Perm (x :: ys)
  | [] => .refl _
  | y :: ys => by
    unfold ins
    split
    · exact .refl _
    · exact ((ins_perm x ys).cons y).trans (.swap x y ys)
theorem isort_perm : ∀ xs : List Int, (isort xs).Perm xs
  | [] => .refl _
  | x :: xs => (ins_perm x (isort xs)).trans ((isort_perm xs).cons x)
theorem ins_sorted (x : Int) : ∀ ys : List Int, ys.Pairwise (· ≤ ·) → (ins x ys).Pairwise (· ≤ ·)
  | [], _ => by unfold ins; exact List.pairwise_singleton _ _
  | y :: ys, h => by
    unfold ins
    split
    · rename_i hx
      refine List.pairwise_cons.mpr ⟨fun z hz => ?_, h⟩
      rcases List.mem_cons.mp hz with rfl | hz
      · exact hx
      · exact Int.le_trans hx ((List.pairwise_cons.mp h).1 z hz)
    · rename_i hx
      refine List.pairwise_cons.mpr ⟨fun z hz => ?_, ins_sorted x ys (List.pairwise_cons.mp h).2⟩
      rcases List.mem_cons.mp ((ins_perm x ys).mem_iff.mp hz) with rfl | hz
      · omega
      · exact (List.pairwise_cons.mp h).1 z hz
theorem isort_sorted : ∀ xs : List Int, (isort xs).Pairwise (· ≤ ·)
  | [] => .nil
  | x :: xs => ins_sorted x _ (isort_sorted xs)
theorem sorted_uniq : ∀ {xs ys : List Int}, xs.Perm ys → xs.Pairwise (· ≤ ·) → ys.Pairwise (· ≤ ·) → xs = ys
  | [], ys, p, _, _ => (List.nil_perm.mp p).symm
  | x :: xs, [], p, _, _ => by
    have := p.length_eq
    simp at this
  | x :: xs, y :: ys, p, h1, h2 => by
    have hx : x = y := by
      have a1 : x ∈ y :: ys := p.mem_iff.mp List.mem_cons_self
      have a2 : y ∈ x :: xs := p.mem_iff.mpr List.mem_cons_self
      have b1 : y ≤ x := by
        rcases List.mem_cons.mp a1 with rfl | a1
        · exact Int.le_refl _
        · exact (List.pairwise_cons.mp h2).1 x a1
      have b2 : x ≤ y := by
        rcases List.mem_cons.mp a2 with rfl | a2
        · exact Int.le_refl _
        · exact (List.pairwise_cons.mp h1).1 y a2
      omega
    subst hx
    rw [sorted_uniq (List.Perm.cons_inv p) (List.pairwise_cons.mp h1).2 (List.pairwise_cons.mp h2).2]

/-! ### methods -/
def MtS (G : GX) (r : V → List V → Hp → VK → Prop) (f : Mt) : Prop :=
  ∀ (m : List Addr) (H : Hp) (h : Hw) (o : W) (x : V) (ws : List W) (vs : List V) (Q : VK) (E : XK), RelH G.K m H h → Rep G.K H m o x → RepL G.K H m ws vs → RV G (Rep G.K) m H (mt f o ws h) Q E → r x vs H Q
/-- a list of ours is changed -/
theorem RV.put {m : List Addr} {H : Hp} {h : Hw} {E : XK} {w : W} {v : V} {xs : List W} {us vs : List V} {n : Nat} {a : Addr} {Q : VK} (hl : H a = some (.lst us)) (z : RV G (Rep G.K) m H (.ok w (h.set n (.lst xs))) Q E) (rh : RelH G.K m H h) (e : m[n]? = some a) (r : RepL G.K H m xs vs) (q : Rep G.K H m w v) : Q v (upd H a (.lst vs)) :=
  z m _ v (Nx.put (List.mem_of_getElem? e) hl) (rh.put e hl r) (q.mono (Nx.put (List.mem_of_getElem? e) hl))
theorem mt_o {f : Mt} {o : W} {ws : List W} {h : Hw} (hf : ∀ p, o ≠ .ref p) : mt f o ws h = .err := by
  cases o with
  | ref p => exact absurd rfl (hf p)
  | _ => cases f <;> rfl
theorem appendS : MtS G rAppend .append := by
  intro m H h o x ws vs Q E rh ro r z
  by_cases ho : ∃ p, o = .ref p
  · obtain ⟨p, rfl⟩ := ho
    obtain ⟨a, e1, rfl⟩ := ro.ref_of
    match ws with
    | [] => exact z.no
    | [v] =>
      obtain ⟨y, rfl, r1⟩ := r.one
      have z : RV G (Rep G.K) m H (match h[p]? with
        | some (.lst xs) => if xs.length < lim then .ok .non (h.set p (.lst (xs ++ [v]))) else .err
        | _ => .err) Q E := z
      split at z
      · rename_i xs hx
        split at z
        · rename_i hl
          obtain ⟨zs, f, q⟩ := rh.lst hx e1
          exact ⟨a, zs, y, rfl, rfl, f, by rw [← q.len, ← lim_eq]; exact hl, RV.put f z rh e1 (q.append (.cons r1 .nil)) .non'⟩
        · exact z.no
      · exact z.no
    | a :: b :: c => exact z.no
  · rw [mt_o fun p e => ho ⟨p, e⟩] at z
    exact z.no
theorem extendS : MtS G (rExtA G.K) .extend := by
  intro m H h o x ws vs Q E rh ro r z
  by_cases ho : ∃ p, o = .ref p
  · obtain ⟨p, rfl⟩ := ho
    obtain ⟨a, e1, rfl⟩ := ro.ref_of
    match ws with
    | [] => exact z.no
    | [.ref n] =>
      obtain ⟨y, rfl, r1⟩ := r.one
      obtain ⟨b, e2, rfl⟩ := r1.ref_of
      have z : RV G (Rep G.K) m H (match h[p]?, h[n]? with
        | some (.lst xs), some (.lst ys) => if xs.length + ys.length ≤ lim then .ok .non (h.set p (.lst (xs ++ ys))) else .err
        | _, _ => .err) Q E := z
      split at z
      · rename_i xs ys hx hy
        split at z
        · rename_i hl
          obtain ⟨zs, f, q⟩ := rh.lst hx e1
          obtain ⟨zs2, f2, q2⟩ := rh.lst hy e2
          exact ⟨a, b, zs, zs2, rfl, rfl, f, .inl f2, by rw [← q.len, ← q2.len, ← lim_eq]; exact hl, RV.put f z rh e1 (q.append q2) .non'⟩
        · exact z.no
      · exact z.no
    | [.non] => exact z.no
    | [.bl _] => exact z.no
    | [.int _] => exact z.no
    | [.str _] => exact z.no
    | [.tup ys] =>
      obtain ⟨y, rfl, r1⟩ := r.one
      obtain ⟨b, vs2, rfl, st, r2⟩ := r1.tup_of
      have z : RV G (Rep G.K) m H (match h[p]? with
        | some (.lst xs) => if xs.length + ys.length ≤ lim then .ok .non (h.set p (.lst (xs ++ ys))) else .err
        | _ => .err) Q E := z
      split at z
      · rename_i xs hx
        split at z
        · rename_i hl
          obtain ⟨zs, f, q⟩ := rh.lst hx e1
          exact ⟨a, b, zs, vs2, rfl, rfl, f, .inr st.sq, by rw [← q.len, ← r2.len, ← lim_eq]; exact hl, RV.put f z rh e1 (q.append r2) .non'⟩
        · exact z.no
      · exact z.no
    | [.fl _] => exact z.no
    | a :: b :: c => cases a <;> exact z.no
  · rw [mt_o fun p e => ho ⟨p, e⟩] at z
    exact z.no
theorem popS : MtS G rPop .pop := by
  intro m H h o x ws vs Q E rh ro r z
  by_cases ho : ∃ p, o = .ref p
  · obtain ⟨p, rfl⟩ := ho
    obtain ⟨a, e1, rfl⟩ := ro.ref_of
    match ws with
    | [] =>
      have hv : vs = [] := by unfold RepL at r; exact r
      subst hv
      have z : RV G (Rep G.K) m H (match h[p]? with
        | some (.lst xs) => match xs[xs.length - 1]? with
          | some v => .ok v (h.set p (.lst xs.dropLast))
          | none => .err
        | _ => .err) Q E := z
      split at z
      · rename_i xs hx
        split at z
        · rename_i w hw
          obtain ⟨zs, f, q⟩ := rh.lst hx e1
          obtain ⟨v, hv, rv⟩ := q.get hw
          exact ⟨a, zs, v, rfl, rfl, f, by rw [← q.len]; exact hv, RV.put f z rh e1 q.dropLast rv⟩
        · exact z.no
      · exact z.no
    | a :: c => exact z.no
  · rw [mt_o fun p e => ho ⟨p, e⟩] at z
    exact z.no
theorem RepL.erase {K : PySem.W.Frag} {H : Hp} {m : List Addr} : ∀ {ws : List W} {vs : List V} (k : Nat), RepL K H m ws vs → RepL K H m (ws.eraseIdx k) (vs.eraseIdx k)
  | [], _, k, r => by
    have hv := r
    unfold RepL at hv
    subst hv
    simp only [List.eraseIdx_nil]
    exact r
  | w :: ws, _, 0, r => by
    obtain ⟨v, q, rfl, r1, r2⟩ := r.uncons
    exact r2
  | w :: ws, _, k + 1, r => by
    obtain ⟨v, q, rfl, r1, r2⟩ := r.uncons
    exact .cons r1 (RepL.erase k r2)
theorem RepL.rev {K : PySem.W.Frag} {H : Hp} {m : List Addr} : ∀ {ws : List W} {vs : List V}, RepL K H m ws vs → RepL K H m ws.reverse vs.reverse
  | [], _, r => by
    have hv := r
    unfold RepL at hv
    subst hv
    exact r
  | w :: ws, _, r => by
    obtain ⟨v, q, rfl, r1, r2⟩ := r.uncons
    rw [List.reverse_cons, List.reverse_cons]
    exact (RepL.rev r2).append (.cons r1 (by unfold RepL; rfl))
theorem reverseS : MtS G rReverse .reverse := by
  intro m H h o x ws vs Q E rh ro r z
  by_cases ho : ∃ p, o = .ref p
  · obtain ⟨p, rfl⟩ := ho
    obtain ⟨a, e1, rfl⟩ := ro.ref_of
    match ws with
    | [] =>
      have hv : vs = [] := by unfold RepL at r; exact r
      subst hv
      have z : RV G (Rep G.K) m H (match h[p]? with
        | some (.lst xs) => .ok .non (h.set p (.lst xs.reverse))
        | _ => .err) Q E := z
      split at z
      · rename_i xs hx
        obtain ⟨zs, f, q⟩ := rh.lst hx e1
        exact ⟨a, zs, rfl, rfl, f, RV.put f z rh e1 q.rev .non'⟩
      · exact z.no
    | a :: c => exact z.no
  · rw [mt_o fun p e => ho ⟨p, e⟩] at z
    exact z.no
theorem popAtS : MtS G rPopAt .popAt := by
  intro m H h o x ws vs Q E rh ro r z
  by_cases ho : ∃ p, o = .ref p
  · obtain ⟨p, rfl⟩ := ho
    obtain ⟨a, e1, rfl⟩ := ro.ref_of
    match ws with
    | [.int i] =>
      obtain ⟨v, q, rfl, r1, r2⟩ := r.uncons
      have hq : q = [] := by unfold RepL at r2; exact r2
      subst hq
      rw [r1.int_of]
      have z : RV G (Rep G.K) m H (if -(2 ^ 62) ≤ i ∧ i < 2 ^ 62 then match h[p]? with
        | some (.lst xs) => match ixN xs.length i with
          | some k => match xs[k]? with
            | some v => .ok v (h.set p (.lst (xs.eraseIdx k)))
            | none => .err
          | none => .err
        | _ => .err
        else .err) Q E := z
      split at z
      · rename_i hb
        split at z
        · rename_i xs hx
          split at z
          · rename_i k hk
            split at z
            · rename_i w hw
              obtain ⟨zs, f, q⟩ := rh.lst hx e1
              obtain ⟨v, hv, rv⟩ := q.get hw
              exact ⟨a, zs, i, k, v, rfl, rfl, f, by omega, by omega, by rw [← q.len]; exact (L2.ixN_seq hk).1, hv, RV.put f z rh e1 (q.erase k) rv⟩
            · exact z.no
          · exact z.no
        · exact z.no
      · exact z.no
    | [] => exact z.no
    | [.non] => exact z.no
    | [.bl _] => exact z.no
    | [.str _] => exact z.no
    | [.tup _] => exact z.no
    | [.fl _] => exact z.no
    | [.ref _] => exact z.no
    | a :: b :: c => cases a <;> exact z.no
  · rw [mt_o fun p e => ho ⟨p, e⟩] at z
    exact z.no
theorem indexS : MtS G (rIndexD G.K) .index := by
  intro m H h o x ws vs Q E rh ro r z
  by_cases ho : ∃ p, o = .ref p
  · obtain ⟨p, rfl⟩ := ho
    have ro2 := ro
    obtain ⟨a, e1, rfl⟩ := ro.ref_of
    match ws with
    | [w] =>
      obtain ⟨v, q, rfl, r1, r2⟩ := r.uncons
      have hq : q = [] := by unfold RepL at r2; exact r2
      subst hq
      have z : RV G (Rep G.K) m H (match ixW w (.ref p) h with | some k => .ok (.int k) h | none => .err) Q E := z
      split at z
      · rename_i k hk
        unfold ixW at hk
        split at hk
        · rename_i d ds h1 h2
          split at hk
          · rename_i hd
            obtain ⟨p1, p2⟩ := dp1_of rh r1 h1
            obtain ⟨q1, q2⟩ := dp1_of rh ro2 h2
            obtain ⟨hl, e3, e4⟩ := List.findIdx?_eq_some_iff_getElem.mp hk
            refine ⟨a, v, d, ds, k, ds[k], rfl, rfl, q1, p1, by unfold SeqAt.shaped; rw [q2, decide_eq_true hd.2]; rfl, by unfold SeqAt.shaped; rw [p2, decide_eq_true hd.1]; rfl, List.getElem?_eq_getElem hl, e3, fun j z' hj hz => ?_, z.here rh .int'⟩
            obtain ⟨hj2, rfl⟩ := List.getElem?_eq_some_iff.mp hz
            simpa using e4 j hj
          · cases hk
        · cases hk
      · exact z.no
    | [] => exact (show RV G (Rep G.K) m H .err Q E from z).no
    | _ :: _ :: _ => exact (show RV G (Rep G.K) m H .err Q E from z).no
  · rw [mt_o fun p q => ho ⟨p, q⟩] at z
    exact z.no
theorem ixN_seq' {n : Nat} {i : Int} {k : Nat} (h : ixN n i = some k) : seqIndex? i n = some k ∧ k < n ∧ -(n : Int) ≤ i ∧ i < n := L2.ixN_seq h
def rSetI : V → V → V → Hp → (Hp → Prop) → Prop := rSetL
theorem setS {m : List Addr} {H : Hp} {h h' : Hw} {o i w : W} {x y v : V} (rh : RelH G.K m H h) (ro : Rep G.K H m o x) (ri : Rep G.K H m i y) (rw_ : Rep G.K H m w v) (e : setIt o i w h = some h') {Q : Hp → Prop}
    (z : ∀ m' H', Nx m H m' H' → RelH G.K m' H' h' → Q H') : rSetL x y v H Q := by
  cases o with
  | ref p =>
    cases i with
    | int k =>
      obtain ⟨a, e1, rfl⟩ := ro.ref_of
      rw [ri.int_of]
      have e : (match h[p]? with
        | some (.lst xs) => match ixN xs.length k with
          | some j => some (h.set p (.lst (xs.set j w)))
          | none => none
        | _ => none) = some h' := e
      split at e
      · rename_i xs hx
        split at e
        · rename_i j hj
          cases e
          obtain ⟨zs, f, q⟩ := rh.lst hx e1
          have hj' : L2.ixN zs.length k = some j := by rw [← q.len]; exact hj
          exact ⟨a, zs, k, j, rfl, rfl, f, hj', z m _ (Nx.put (List.mem_of_getElem? e1) f) (rh.put e1 f (q.set rw_ j))⟩
        · cases e
      · cases e
    | _ => cases e
  | _ => cases e
end
end Ev

set_option Elab.async false
set_option linter.all false
set_option maxRecDepth 100000
/-! Ev6: readings of our meaning in the hand layer; the judgements, construct by construct. -/
namespace Ev
open PySem PySem.Spec PyProof.Rows L2

def gx (X : Cx) (cl : List Value) : GX := ⟨X.prog, X.w, X.K, X.mg, X.base, cl⟩
def tR {α β : Type} (G : GX) (Wx : WX) (R : Hp → List Addr → α → β → Prop) (ev : En → Hw → Res α) : L2.St → Hp → (β → Hp → Prop) → Prop := fun σ H Q =>
  ∃ m ρ h, RepS G.K H m ρ σ ∧ RelH G.K m H h ∧ RV G R m H (ev ρ h) Q (fun c d H' => Wx c d σ H')
abbrev tE (G : GX) (Wx : WX) (ev : En → Hw → Res W) : TE := tR G Wx (Rep G.K) ev
abbrev tEs (G : GX) (Wx : WX) (ev : En → Hw → Res (List W)) : TA := tR G Wx (RepL G.K) ev
def Same {α : Type} : Hp → List Addr → α → α → Prop := fun _ _ a b => b = a
abbrev tT (G : GX) (Wx : WX) (ev : En → Hw → Res Bool) : TT := tR G Wx Same ev
abbrev tP (G : GX) (Wx : WX) (ev : En → Hw → Res (Option Int)) : TO := tR G Wx Same ev
abbrev tL (G : GX) (Wx : WX) (ev : En → Hw → Res (List W × Gu × Bool)) : TE := tR G Wx (Src G.K) ev

section
variable {G : GX} {Wx : WX} {σ : L2.St} {H : Hp}
/-- one part behind another -/
theorem tR.bind {α β α' β' : Type} {R : Hp → List Addr → α → β → Prop} {R' : Hp → List Addr → α' → β' → Prop} {f : En → Hw → Res α} {g : En → α → Hw → Res α'} {Q : β' → Hp → Prop} {Q' : β → Hp → Prop}
    (z : tR G Wx R' (fun ρ h => (f ρ h).bind (g ρ)) σ H Q)
    (k : ∀ m ρ a b h H1, RepS G.K H1 m ρ σ → RelH G.K m H1 h → R H1 m a b → RV G R' m H1 (g ρ a h) Q (fun c d H' => Wx c d σ H') → Q' b H1) : tR G Wx R f σ H Q' := by
  obtain ⟨m, ρ, h, rs, rh, z⟩ := z
  exact ⟨m, ρ, h, rs, rh, (RV.bind z).mono fun b H1 ⟨m1, a, h1, n, rh1, r, z1⟩ => k m1 ρ a b h1 H1 (rs.mono n) rh1 r z1⟩
/-- go on with a part -/
theorem tR.next {α β α' β' : Type} {R : Hp → List Addr → α → β → Prop} {R' : Hp → List Addr → α' → β' → Prop} {m : List Addr} {ρ : En} {h : Hw} {f : En → Hw → Res α} {g : α → Hw → Res α'} {Q : β' → Hp → Prop} {Q' : β → Hp → Prop}
    (rs : RepS G.K H m ρ σ) (rh : RelH G.K m H h) (z : RV G R' m H ((f ρ h).bind g) Q (fun c d H' => Wx c d σ H'))
    (k : ∀ m1 a b h1 H1, Nx m H m1 H1 → RepS G.K H1 m1 ρ σ → RelH G.K m1 H1 h1 → R H1 m1 a b → RV G R' m1 H1 (g a h1) Q (fun c d H' => Wx c d σ H') → Q' b H1) : tR G Wx R f σ H Q' :=
  ⟨m, ρ, h, rs, rh, (RV.bind z).mono fun b H1 ⟨m1, a, h1, n, rh1, r, z1⟩ => k m1 a b h1 H1 n (rs.mono n) rh1 r z1⟩
theorem tR.here {α β : Type} {R : Hp → List Addr → α → β → Prop} {m : List Addr} {ρ : En} {h : Hw} {f : En → Hw → Res α} {Q : β → Hp → Prop} (rs : RepS G.K H m ρ σ) (rh : RelH G.K m H h) (z : RV G R m H (f ρ h) Q (fun c d H' => Wx c d σ H')) : tR G Wx R f σ H Q :=
  ⟨m, ρ, h, rs, rh, z⟩
end
section
variable {X : Cx} {cl : List Value} {Wx : WX} {pos : Pos}
theorem conseq {e : Expr} {t t' : TE} (p : PE X e t) (h : ∀ σ H Q, t' σ H Q → t σ H Q) : PE X e t' := ⟨fun pins s σ H Q I z => p.run pins s σ H Q I (h σ H Q z)⟩
theorem conseqT {e : Expr} {t t' : TT} (p : PT X e t) (h : ∀ σ H Q, t' σ H Q → t σ H Q) : PT X e t' := ⟨fun pins s σ H Q I z => p.run pins s σ H Q I (h σ H Q z)⟩
theorem conseqW {e : Expr} {t t' : TT} (p : PW X e t) (h : ∀ σ H Q, t' σ H Q → t σ H Q) : PW X e t' := ⟨fun wh pins s σ H Q I z => p.run wh pins s σ H Q I (h σ H Q z)⟩
theorem conseqA {es : List Expr} {t t' : TA} (p : PA X es t) (h : ∀ σ H Q, t' σ H Q → t σ H Q) : PA X es t' := ⟨fun ps pins s σ H Q I z => p.run ps pins s σ H Q I (h σ H Q z)⟩
theorem conseqO {e : Option Expr} {t t' : TO} (p : PO X e t) (h : ∀ σ H Q, t' σ H Q → t σ H Q) : PO X e t' := ⟨fun pins s σ H Q I z => p.run pins s σ H Q I (h σ H Q z)⟩
theorem conseqS {st : Stmt} {t t' : TS} (p : PS X st t) (h : ∀ D σ H, t' D σ H → t D σ H) : PS X st t' := ⟨fun pins s σ H D I z => p.run pins s σ H D I (h D σ H z)⟩
theorem conseqSs {st : List Stmt} {t t' : TS} (p : PSs X st t) (h : ∀ D σ H, t' D σ H → t D σ H) : PSs X st t' := ⟨fun pins s σ H D I z => p.run pins s σ H D I (h D σ H z)⟩
theorem PE.or {e : Expr} {t t' : TE} (p : PE X e t) (q : PE X e t') : PE X e (fun σ H Q => t σ H Q ∨ t' σ H Q) := ⟨fun pins s σ H Q I z => z.elim (p.run pins s σ H Q I) (q.run pins s σ H Q I)⟩

/-! ### expressions -/
theorem s_var {i : Nat} {x : Str} (hN : X.N[i]? = some x) (hv : Vis X.env.scope x) (hd : (x == ("__debug__" : Str)) = false) (hcd : (x == ("__classdict__" : Str)) = false) :
    PE X (.Name x pos) (tE (gx X cl) Wx fun ρ h => match ρ[i]? with | some (some w) => .ok w h | _ => .err) :=
  conseq (pe_var hN hv hd hcd) fun σ H Q ⟨m, ρ, h, rs, rh, z⟩ => by
    try dsimp only at z
    split at z
    · rename_i w e
      obtain ⟨v, e2, r⟩ := rs.get e
      exact ⟨v, e2, z.here rh r⟩
    · exact z.no
theorem s_int {i : Int} {j : Nat} : PE X (.Constant (.int i) j pos) (tE (gx X cl) Wx fun _ h => .ok (.int i) h) := conseq pe_int fun _ _ _ ⟨_, _, _, _, rh, z⟩ => z.here rh .int'
theorem s_bl {i : Bool} {j : Nat} : PE X (.Constant (.bool i) j pos) (tE (gx X cl) Wx fun _ h => .ok (.bl i) h) := conseq pe_bl fun _ _ _ ⟨_, _, _, _, rh, z⟩ => z.here rh .bl'
theorem s_non {j : Nat} : PE X (.Constant .none j pos) (tE (gx X cl) Wx fun _ h => .ok .non h) := conseq pe_non fun _ _ _ ⟨_, _, _, _, rh, z⟩ => z.here rh .non'
theorem s_str {i : Str} {j : Nat} : PE X (.Constant (.str i) j pos) (tE (gx X cl) Wx fun _ h => .ok (.str i) h) := conseq pe_str fun _ _ _ ⟨_, _, _, _, rh, z⟩ => z.here rh .str'
variable {a b : Expr} {ea eb : En → Hw → Res W}
theorem t2 {r : R2} {sem : W → W → Hw → Res W} (hs : OpS (gx X cl) r sem) {σ : L2.St} {H : Hp} {Q : VK} (z : tE (gx X cl) Wx (fun ρ h => (ea ρ h).bind fun x h => (eb ρ h).bind fun y h => sem x y h) σ H Q) :
    tOp r (tE (gx X cl) Wx ea) (tE (gx X cl) Wx eb) σ H Q :=
  tR.bind z fun m ρ wa x h H1 rs rh ra z1 => tR.next rs rh z1 fun m2 wb y h2 H2 n rs2 rh2 rb z2 => hs m2 H2 h2 wa wb x y Q _ rh2 (ra.mono n) rb z2
theorem s_bin {op : Operator} {r : R2} {sem : W → W → Hw → Res W} (ho : OpR X (binaryOp op) r) (hs : OpS (gx X cl) r sem) (ha : PE X a (tE (gx X cl) Wx ea)) (hb : PE X b (tE (gx X cl) Wx eb)) :
    PE X (.BinOp a op b pos) (tE (gx X cl) Wx fun ρ h => (ea ρ h).bind fun x h => (eb ρ h).bind fun y h => sem x y h) := conseq (pe_op ho ha hb) fun σ H Q z => t2 hs z
theorem s_cmp {op : CmpOp} {r : R2} {sem : W → W → Hw → Res W} (ho : OpR X (compareOp op) r) (hs : OpS (gx X cl) r sem) (ha : PE X a (tE (gx X cl) Wx ea)) (hb : PE X b (tE (gx X cl) Wx eb)) (hm : behindInMarks op b = false) :
    PE X (.Compare a [op] [b] pos) (tE (gx X cl) Wx fun ρ h => (ea ρ h).bind fun x h => (eb ρ h).bind fun y h => sem x y h) := conseq (pe_cmpR ho ha hb hm) fun σ H Q z => t2 hs z
/-- as a test: the value is a bool -/
theorem tTestOf {sem : En → Hw → Res W} {t : TE} (hb : ∀ σ H (Q : VK), tE (gx X cl) Wx sem σ H Q → t σ H Q) (hv : ∀ ρ h w h', sem ρ h = .ok w h' → ∃ k, w = .bl k) {σ : L2.St} {H : Hp} {Q : Bool → Hp → Prop}
    (z : tT (gx X cl) Wx (fun ρ h => (sem ρ h).bind fun x h => match truth x h with | some k => .ok k h | none => .err) σ H Q) : tTest t σ H Q := by
  obtain ⟨m, ρ, h, rs, rh, z⟩ := z
  try dsimp only at z
  refine hb σ H _ ⟨m, ρ, h, rs, rh, ?_⟩
  cases e : sem ρ h with
  | ok w h' =>
    obtain ⟨k, rfl⟩ := hv ρ h w h' e
    rw [e] at z
    intro m' H' v n rh' r
    exact ⟨k, r.bl_of, z m' H' k n rh' rfl⟩
  | exc x h' =>
    rw [e] at z
    exact z
  | err =>
    rw [e] at z
    exact z
theorem s_isN {c : Expr} {j : Nat} {p : Pos} (ha : PE X a (tE (gx X cl) Wx ea)) :
    PE X (.Compare a [.Is] [.Constant .none j p] pos) (tE (gx X cl) Wx fun ρ h => (ea ρ h).bind fun x h => (Res.ok W.non h).bind fun y h => cmp .isN x y h) :=
  conseq (pe_cmp (pc_isN ha)) fun σ H Q z => tR.bind z fun m ρ wa x h H1 rs rh ra z1 => isNS rh ra z1
theorem s_notN {c : Expr} {j : Nat} {p : Pos} (ha : PE X a (tE (gx X cl) Wx ea)) :
    PE X (.Compare a [.IsNot] [.Constant .none j p] pos) (tE (gx X cl) Wx fun ρ h => (ea ρ h).bind fun x h => (Res.ok W.non h).bind fun y h => cmp .notN x y h) :=
  conseq (pe_cmp (pc_notN ha)) fun σ H Q z => tR.bind z fun m ρ wa x h H1 rs rh ra z1 => notNS rh ra z1
theorem s_neg (ha : PE X a (tE (gx X cl) Wx ea)) : PE X (.UnaryOp .USub a pos) (tE (gx X cl) Wx fun ρ h => (ea ρ h).bind fun x h => match x with | .int i => .ok (.int (-i)) h | _ => .err) :=
  conseq (pe_un un_neg ha) fun σ H Q z => tR.bind z fun m ρ wa x h H1 rs rh ra z1 => by
    cases wa with
    | int i =>
      rw [ra.int_of]
      exact ⟨i, rfl, RV.here (R := Rep (gx X cl).K) z1 rh .int'⟩
    | _ => exact z1.no
variable {rest : List Expr}
theorem s_one {op : BoolOp} (ha : PE X a (tE (gx X cl) Wx ea)) : PE X (.BoolOp op [a] pos) (tE (gx X cl) Wx ea) := pe_one ha
theorem s_and (ha : PE X a (tE (gx X cl) Wx ea)) (hb : PE X (.BoolOp .And (b :: rest) pos) (tE (gx X cl) Wx eb)) :
    PE X (.BoolOp .And (a :: b :: rest) pos) (tE (gx X cl) Wx fun ρ h => (ea ρ h).bind fun x h => match truth x h with | some true => eb ρ h | some false => .ok x h | none => .err) :=
  conseq (pe_andT ha hb) fun σ H Q z => tR.bind z fun m ρ wa x h H1 rs rh ra z1 => by
    try dsimp only at z1
    split at z1
    · rename_i e
      exact ⟨true, truS rh ra e, iteT (.here rs rh z1)⟩
    · rename_i e
      exact ⟨false, truS rh ra e, iteF (z1.here rh ra)⟩
    · exact z1.no
theorem s_or (ha : PE X a (tE (gx X cl) Wx ea)) (hb : PE X (.BoolOp .Or (b :: rest) pos) (tE (gx X cl) Wx eb)) :
    PE X (.BoolOp .Or (a :: b :: rest) pos) (tE (gx X cl) Wx fun ρ h => (ea ρ h).bind fun x h => match truth x h with | some true => .ok x h | some false => eb ρ h | none => .err) :=
  conseq (pe_orT ha hb) fun σ H Q z => tR.bind z fun m ρ wa x h H1 rs rh ra z1 => by
    try dsimp only at z1
    split at z1
    · rename_i e
      exact ⟨true, truS rh ra e, iteT (z1.here rh ra)⟩
    · rename_i e
      exact ⟨false, truS rh ra e, iteF (.here rs rh z1)⟩
    · exact z1.no
variable {tta ttb : En → Hw → Res Bool}
/-! ### tests -/
theorem s_tval (ha : PE X a (tE (gx X cl) Wx ea)) (he : ∀ whole, isTrue a X.env whole = (do let v ← whole; standAt a.pos; holding [v] (truthy v))) :
    PT X a (tT (gx X cl) Wx fun ρ h => (ea ρ h).bind fun x h => match truth x h with | some k => .ok k h | none => .err) :=
  conseqT (pt_truth ha he) fun σ H Q z => tR.bind z fun m ρ wa x h H1 rs rh ra z1 => by
    try dsimp only at z1
    split at z1
    · rename_i k e
      exact ⟨k, truS rh ra e, z1.here rh rfl⟩
    · exact z1.no
theorem s_tnot (ha : PT X a (tT (gx X cl) Wx tta)) : PT X (.UnaryOp .Not a pos) (tT (gx X cl) Wx fun ρ h => (tta ρ h).bind fun k h => .ok (!k) h) :=
  conseqT (pt_not ha) fun σ H Q z => tR.bind z fun m ρ wa x h H1 rs rh ra z1 => by
    rw [show x = wa from ra]
    exact z1.here rh rfl
theorem s_tand1 (ha : PT X a (tT (gx X cl) Wx tta)) : PW X (.BoolOp .And [a] pos) (tT (gx X cl) Wx tta) := pw_and1 ha
theorem s_tor1 (ha : PT X a (tT (gx X cl) Wx tta)) : PW X (.BoolOp .Or [a] pos) (tT (gx X cl) Wx tta) := pw_or1 ha
theorem s_tand (ha : PT X a (tT (gx X cl) Wx tta)) (hb : PW X (.BoolOp .And (b :: rest) pos) (tT (gx X cl) Wx ttb)) :
    PW X (.BoolOp .And (a :: b :: rest) pos) (tT (gx X cl) Wx fun ρ h => (tta ρ h).bind fun k h => if k = true then ttb ρ h else .ok false h) :=
  conseqW (pw_and ha hb) fun σ H Q z => tR.bind z fun m ρ wa x h H1 rs rh ra z1 => by
    rw [show x = wa from ra]
    cases wa with
    | true => exact iteT (.here rs rh z1)
    | false => exact iteF (RV.here (R := Same) z1 rh rfl)
theorem s_tor (ha : PT X a (tT (gx X cl) Wx tta)) (hb : PW X (.BoolOp .Or (b :: rest) pos) (tT (gx X cl) Wx ttb)) :
    PW X (.BoolOp .Or (a :: b :: rest) pos) (tT (gx X cl) Wx fun ρ h => (tta ρ h).bind fun k h => if k = true then .ok true h else ttb ρ h) :=
  conseqW (pw_or ha hb) fun σ H Q z => tR.bind z fun m ρ wa x h H1 rs rh ra z1 => by
    rw [show x = wa from ra]
    cases wa with
    | false => exact iteF (.here rs rh z1)
    | true => exact iteT (RV.here (R := Same) z1 rh rfl)
/-- not, as a value: through the value -/
theorem s_notV (ha : PE X a (tE (gx X cl) Wx ea)) : PE X (.UnaryOp .Not a pos) (tE (gx X cl) Wx fun ρ h => ((ea ρ h).bind fun x h => match truth x h with | some k => Res.ok k h | none => .err).bind fun k h => .ok (.bl (!k)) h) :=
  conseq (pe_notT ha) fun σ H Q ⟨m, ρ, h, rs, rh, z⟩ => by
    try dsimp only at z
    refine ⟨m, ρ, h, rs, rh, ?_⟩
    cases e : ea ρ h with
    | ok w h' =>
      rw [e] at z
      intro m' H' v n rh' r
      simp only [Res.bind_ok] at z
      cases e2 : truth w h' with
      | none => rw [e2] at z; exact (show False from z).elim
      | some k =>
        rw [e2] at z
        exact ⟨k, truS rh' r e2, z m' H' _ n rh' .bl'⟩
    | exc x h' => rw [e] at z; exact z
    | err => rw [e] at z; exact z
theorem s_ite {c : Expr} (hc : PT X c (tT (gx X cl) Wx tta)) (ha : PE X a (tE (gx X cl) Wx ea)) (hb : PE X b (tE (gx X cl) Wx eb)) :
    PE X (.IfExp c a b pos) (tE (gx X cl) Wx fun ρ h => (tta ρ h).bind fun k h => if k = true then ea ρ h else eb ρ h) :=
  conseq (pe_ifExp hc ha hb) fun σ H Q z => tR.bind z fun m ρ wa x h H1 rs rh ra z1 => by
    rw [show x = wa from ra]
    cases wa with
    | true => exact iteT (.here rs rh z1)
    | false => exact iteF (.here rs rh z1)

/-! ### displays, items, slices -/
variable {es : List Expr} {ees : En → Hw → Res (List W)}
theorem s_anil : PA X [] (tEs (gx X cl) Wx fun _ h => .ok [] h) := conseqA pa_nil fun _ _ _ ⟨_, _, _, _, rh, z⟩ => z.here rh .nil
theorem s_acons (ha : PE X a (tE (gx X cl) Wx ea)) (hr : PA X es (tEs (gx X cl) Wx ees)) (hs : starEach (a :: es) X.env = (false, eval a X.env) :: starEach es X.env) :
    PA X (a :: es) (tEs (gx X cl) Wx fun ρ h => (ea ρ h).bind fun x h => (ees ρ h).bind fun xs h => .ok (x :: xs) h) :=
  conseqA (pa_cons ha hr hs) fun σ H Q z => tR.bind z fun m ρ wa x h H1 rs rh ra z1 => tR.next rs rh z1 fun m2 ws vs h2 H2 n rs2 rh2 r z2 => z2.here rh2 (.cons (ra.mono n) r)
theorem s_tup {k : Nat} (h : PA X es (tEs (gx X cl) Wx ees)) : PE X (.Tuple es k pos) (tE (gx X cl) Wx fun ρ h => (ees ρ h).bind fun vs h => if vs.length ≤ lim then .ok (.tup vs) h else .err) :=
  conseq (pe_tupF h) fun σ H Q z => tR.bind z fun m ρ ws vs h H1 rs rh r z1 => by
    try dsimp only at z1
    split at z1
    · rename_i hl
      exact ⟨by rw [← r.len, ← lim_eq]; exact hl, z1.newT rh r⟩
    · exact z1.no
theorem s_lst (h : PA X es (tEs (gx X cl) Wx ees)) : PE X (.List es pos) (tE (gx X cl) Wx fun ρ h => (ees ρ h).bind fun vs h => if vs.length ≤ lim then .ok (.ref h.length) (h ++ [.lst vs]) else .err) :=
  conseq (pe_lst h) fun σ H Q z => tR.bind z fun m ρ ws vs h H1 rs rh r z1 => by
    try dsimp only at z1
    split at z1
    · rename_i hl
      exact ⟨by rw [← r.len, ← lim_eq]; exact hl, z1.newL rh r⟩
    · exact z1.no
/-- a list display that only its place sees -/
theorem s_disp (h : PA X es (tEs (gx X cl) Wx ees)) : PE X (.List es pos) (tL (gx X cl) Wx fun ρ h => (ees ρ h).bind fun vs h => if vs.length ≤ lim then .ok (vs, [], false) h else .err) :=
  conseq (pe_lst h) fun σ H Q z => tR.bind z fun m ρ ws vs h H1 rs rh r z1 => by
    try dsimp only at z1
    split at z1
    · rename_i hl
      exact ⟨by rw [← r.len, ← lim_eq]; exact hl, fun p hp => z1 m _ _ (Nx.laid hp) (rh.laid hp) (src_new r rh hp)⟩
    · exact z1.no
theorem s_idx (ha : PE X a (tE (gx X cl) Wx ea)) (hb : PE X b (tE (gx X cl) Wx eb)) (hp : PlainIx b) : PE X (.Subscript a b pos) (tE (gx X cl) Wx fun ρ h => (ea ρ h).bind fun x h => (eb ρ h).bind fun y h => item x y h) :=
  conseq (pe_ix ix_item ha hb hp) fun σ H Q z => t2 itemS z
variable {lo hi : Option Expr} {el eh : En → Hw → Res (Option Int)}
theorem s_pno : PO X none (tP (gx X cl) Wx fun _ h => .ok none h) := conseqO po_none fun _ _ _ ⟨_, _, _, _, rh, z⟩ => z.here rh rfl
theorem s_pat (ha : PE X a (tE (gx X cl) Wx ea)) : PO X (some a) (tP (gx X cl) Wx fun ρ h => (ea ρ h).bind fun x h => match x with | .int i => .ok (some i) h | _ => .err) :=
  conseqO (po_some ha) fun σ H Q z => tR.bind z fun m ρ wa x h H1 rs rh ra z1 => by
    cases wa with
    | int i => exact ⟨i, ra.int_of, RV.here (R := Same) z1 rh rfl⟩
    | _ => exact z1.no
theorem s_slc {p2 : Pos} (ha : PE X a (tE (gx X cl) Wx ea)) (hl : PO X lo (tP (gx X cl) Wx el)) (hh : PO X hi (tP (gx X cl) Wx eh)) :
    PE X (.Subscript a (.Slice lo hi none p2) pos) (tE (gx X cl) Wx fun ρ h => (ea ρ h).bind fun x h => (el ρ h).bind fun l h => (eh ρ h).bind fun u h => slice x l u h) :=
  conseq (pe_slice sl_slice ha hl hh) fun σ H Q z => tR.bind z fun m ρ wa x h H1 rs rh ra z1 => tR.next rs rh z1 fun m2 l1 l2 h2 H2 n rs2 rh2 rl z2 => tR.next rs2 rh2 z2 fun m3 u1 u2 h3 H3 n3 rs3 rh3 ru z3 => by
    rw [show l2 = l1 from rl, show u2 = u1 from ru]
    exact sliceS rh3 ((ra.mono n).mono n3) z3

/-! ### the items of a value -/
theorem s_of (ha : PE X a (tE (gx X cl) Wx ea)) : PE X a (tL (gx X cl) Wx fun ρ h => (ea ρ h).bind fun x h => match seqOf h x with | some xs => .ok (xs, guOf x xs, isTup x) h | none => .err) :=
  conseq ha fun σ H Q z => tR.bind z fun m ρ wa x h H1 rs rh ra z1 => by
    try dsimp only at z1
    split at z1
    · rename_i xs e
      exact z1.here rh (src_val rh ra e)
    · exact z1.no

/-! ### calls of built-in functions -/
variable {x : Str} {p : Pos} {id T : String} {r : List V → Hp → VK → Prop} {e : Expr}
theorem s_biB {sem : List W → Hw → Res W} (hc : CallR X (.builtin id) r) (hs : CallS (gx X cl) r sem) (hg : Gl X x) (hm : X.mg x = none) (hv : bootBuiltins x = some (.builtin id)) (ha : PA X (e :: es) (tEs (gx X cl) Wx ees)) (hn : x ≠ "__name__") (hdb : (x == ("__debug__" : Str)) = false)
    (he : starEach (e :: es) X.env = (false, eval e X.env) :: starEach es X.env) (hpl : (backTo pos (starEach es X.env)).any (·.1) = false) :
    PE X (.Call (.Name x p) (e :: es) [] pos) (tE (gx X cl) Wx fun ρ h => (ees ρ h).bind fun vs h => sem vs h) :=
  conseq (pe_callB hc hg hm hv ha hn hdb he hpl) fun σ H Q z => tR.bind z fun m ρ ws vs h H1 rs rh rr z1 => hs m H1 h ws vs Q _ rh rr z1
theorem s_biT {sem : List W → Hw → Res W} (hc : CallR X (.type T) r) (hs : CallS (gx X cl) r sem) (hg : Gl X x) (hm : X.mg x = none) (hv : bootBuiltins x = some (.type T)) (ha : PA X (e :: es) (tEs (gx X cl) Wx ees)) (hn : x ≠ "__name__") (hdb : (x == ("__debug__" : Str)) = false)
    (he : starEach (e :: es) X.env = (false, eval e X.env) :: starEach es X.env) (hpl : (backTo pos (starEach es X.env)).any (·.1) = false) :
    PE X (.Call (.Name x p) (e :: es) [] pos) (tE (gx X cl) Wx fun ρ h => (ees ρ h).bind fun vs h => sem vs h) :=
  conseq (pe_callTy hc hg hm hv ha hn hdb he hpl) fun σ H Q z => tR.bind z fun m ρ ws vs h H1 rs rh rr z1 => hs m H1 h ws vs Q _ rh rr z1
theorem s_biM {sem : List W → Hw → Res W} (hc : CallR X (.builtin id) r) (hs : CallS (gx X cl) r sem) (hg : Gl X x) (hm : X.mg x = some (.builtin id)) (ha : PA X (e :: es) (tEs (gx X cl) Wx ees)) (hdb : (x == ("__debug__" : Str)) = false)
    (he : starEach (e :: es) X.env = (false, eval e X.env) :: starEach es X.env) (hpl : (backTo pos (starEach es X.env)).any (·.1) = false) :
    PE X (.Call (.Name x p) (e :: es) [] pos) (tE (gx X cl) Wx fun ρ h => (ees ρ h).bind fun vs h => sem vs h) :=
  conseq (pe_callBfun hc hg hm ha hdb he hpl) fun σ H Q z => tR.bind z fun m ρ ws vs h H1 rs rh rr z1 => hs m H1 h ws vs Q _ rh rr z1
/-- of one sequence -/
theorem s_one1 {el : En → Hw → Res (List W × Gu × Bool)} (ha : PE X e (tL (gx X cl) Wx el)) (hs : starEach [e] X.env = [(false, eval e X.env)]) : PA X [e] (tCons (tL (gx X cl) Wx el) tNil) := pa_cons ha pa_nil hs
theorem s_blB {el : En → Hw → Res (List W × Gu × Bool)} {sem : List W → Hw → Res W} (hc : CallR X (.builtin id) r) (hs : LcS (gx X cl) r sem) (hg : Gl X x) (hm : X.mg x = none) (hv : bootBuiltins x = some (.builtin id)) (ha : PE X e (tL (gx X cl) Wx el)) (hn : x ≠ "__name__") (hdb : (x == ("__debug__" : Str)) = false)
    (he : starEach [e] X.env = [(false, eval e X.env)]) : PE X (.Call (.Name x p) [e] [] pos) (tE (gx X cl) Wx fun ρ h => (el ρ h).bind fun q h => sem q.1 h) :=
  conseq (pe_callB hc hg hm hv (s_one1 ha he) hn hdb he rfl) fun σ H Q z => tR.bind z fun m ρ q v h H1 rs rh rr z1 => lcS_at hs rh rr z1
theorem s_blT {el : En → Hw → Res (List W × Gu × Bool)} {sem : List W → Hw → Res W} (hc : CallR X (.type T) r) (hs : LcS (gx X cl) r sem) (hg : Gl X x) (hm : X.mg x = none) (hv : bootBuiltins x = some (.type T)) (ha : PE X e (tL (gx X cl) Wx el)) (hn : x ≠ "__name__") (hdb : (x == ("__debug__" : Str)) = false)
    (he : starEach [e] X.env = [(false, eval e X.env)]) : PE X (.Call (.Name x p) [e] [] pos) (tE (gx X cl) Wx fun ρ h => (el ρ h).bind fun q h => sem q.1 h) :=
  conseq (pe_callTy hc hg hm hv (s_one1 ha he) hn hdb he rfl) fun σ H Q z => tR.bind z fun m ρ q v h H1 rs rh rr z1 => lcS_at hs rh rr z1
/-- isinstance(e, T) -/
theorem s_isi {t : Ty} {y : Str} {p2 : Pos} (hg : Gl X x) (hx : x = "isinstance") (hm : X.mg x = none) (hg2 : Gl X y) (hm2 : X.mg y = none) (hv2 : bootBuiltins y = some (.type t.nm)) (hn2 : y ≠ "__name__") (hd2 : (y == ("__debug__" : Str)) = false) (ha : PE X e (tE (gx X cl) Wx ea)) (hs : starEach [e, .Name y p2] X.env = [(false, eval e X.env), (false, eval (.Name y p2) X.env)]) :
    PE X (.Call (.Name x p) [e, .Name y p2] [] pos) (tE (gx X cl) Wx fun ρ h => ((ea ρ h).bind fun v h => (Res.ok [] h).bind fun vs h => .ok (v :: vs) h).bind fun vs h => bi (.isI t) vs h) := by
  subst hx
  refine conseq (pe_callB call_isA hg hm (by decide +kernel) (pa_cons ha (pa_cons (pe_bltn (v := .ty t.nm) hg2 hm2 hv2 rfl hn2 hd2) pa_nil) hs) (by decide) (by decide) hs rfl) fun σ H Q ⟨m, ρ, h, rs, rh, z⟩ => ?_
  try dsimp only at z
  refine ⟨m, ρ, h, rs, rh, ?_⟩
  cases e1 : ea ρ h with
  | ok w h' =>
    rw [e1] at z
    intro m' H' v n rh' rr
    have z : RV (gx X cl) (Rep (gx X cl).K) m H (match isTy w t h' with | some k => .ok (.bl k) h' | none => .err) Q _ := z
    show rIsA X.K [v, .ty t.nm] H' Q
    split at z
    · rename_i k hk
      obtain ⟨T, h1, h2⟩ := isTyS rh' rr hk
      exact ⟨v, _, T, k, rfl, h1, h2, z m' H' _ n rh' .bl'⟩
    · exact z.no
  | exc x h' => rw [e1] at z; exact z
  | err => rw [e1] at z; exact z
/-- a method of a list -/
theorem s_mt {o : Expr} {f : Mt} {name : Str} {apos : Pos} {eo : En → Hw → Res W} {rm : V → List V → Hp → VK → Prop} (pa : PlainAttrs "list") (slot : Slot "list" name id) (hty : typeOf (.builtin id) = pure (.type "method_descriptor")) (hm : MtR X id rm) (hs : MtS (gx X cl) rm f)
    (ho : PE X o (tE (gx X cl) Wx eo)) (ha : PA X (e :: es) (tEs (gx X cl) Wx ees))
    (hbase : attributeBase o name X.env (eval o X.env) = eval o X.env)
    (hfew : ((backTo pos (starEach (e :: es) X.env)).all (fun x => !x.1) && (backToKw pos (keywordEach [] X.env)).all (fun x => x.1.isSome)
      && decide ((e :: es).length + ([] : List Keyword).length + (if ([] : List Keyword).isEmpty then 0 else 1) < 30)) = true)
    (hline : (apos.endLine == pos.line) = true) (hst : starEach (e :: es) X.env = (false, eval e X.env) :: starEach es X.env) (hpl : (backTo pos (starEach es X.env)).any (·.1) = false) :
    PE X (.Call (.Attribute o name apos) (e :: es) [] pos) (tE (gx X cl) Wx fun ρ h => (eo ρ h).bind fun x h => match x with
      | .ref n => (match h[n]? with | some (.lst _) => (ees ρ h).bind fun vs h => mt f x vs h | _ => .err)
      | _ => .err) :=
  conseq (pe_bm pa slot hty hm ho ha hbase hfew hline hst hpl) fun σ H Q z => tR.bind z fun m ρ w v h H1 rs rh rr z1 => by
    try dsimp only at z1
    split at z1
    · rename_i k
      split at z1
      · rename_i xs hx
        obtain ⟨a, q1, rfl⟩ := rr.ref_of
        obtain ⟨vs, f, _⟩ := rh.lst hx q1
        exact ⟨.inl ⟨rfl, vs, .of f⟩, tR.next rs rh z1 fun m2 ws b h2 H2 n rs2 rh2 r2 z2 => hs m2 H2 h2 _ _ ws b Q _ rh2 (rr.mono n) r2 z2⟩
      · exact z1.no
    · exact z1.no
/-- a method without arguments -/
theorem s_mt0 {o : Expr} {f : Mt} {name : Str} {apos : Pos} {eo : En → Hw → Res W} {rm : V → List V → Hp → VK → Prop} (pa : PlainAttrs "list") (slot : Slot "list" name id) (hty : typeOf (.builtin id) = pure (.type "method_descriptor")) (hm : MtR X id rm) (hs : MtS (gx X cl) rm f)
    (ho : PE X o (tE (gx X cl) Wx eo)) (hbase : attributeBase o name X.env (eval o X.env) = eval o X.env) (hline : (apos.endLine == pos.line) = true) :
    PE X (.Call (.Attribute o name apos) [] [] pos) (tE (gx X cl) Wx fun ρ h => (eo ρ h).bind fun x h => match x with
      | .ref n => (match h[n]? with | some (.lst _) => mt f x [] h | _ => .err)
      | _ => .err) :=
  conseq (pe_bm0 pa slot hty hm ho hbase hline) fun σ H Q z => tR.bind z fun m ρ w v h H1 rs rh rr z1 => by
    try dsimp only at z1
    split at z1
    · rename_i k
      split at z1
      · rename_i xs hx
        obtain ⟨a, q1, rfl⟩ := rr.ref_of
        obtain ⟨vs, f, _⟩ := rh.lst hx q1
        exact ⟨.inl ⟨rfl, vs, .of f⟩, hs m H1 h _ _ [] [] Q _ rh rr .nil z1⟩
      · exact z1.no
    · exact z1.no
theorem rep_rg {G : GX} {H : Hp} {m : List Addr} (a b : Int) : RepL G.K H m (rng a (b - a).toNat) (rgV a b) := by
  have e1 : rng a (b - a).toNat = ((List.range (b - a).toNat).map fun (i : Nat) => a + (i : Int)).map W.int := by rw [List.map_map]; rfl
  have e2 : rgV a b = ((List.range (b - a).toNat).map fun (i : Nat) => a + (i : Int)).map V.int := by unfold rgV; rw [List.map_map]; rfl
  rw [e1, e2]
  exact repL_ints _
theorem s_lr1 {a : Expr} {ea : En → Hw → Res W} {p p2 pos2 : Pos} (hc : X.calm = true) (hg : Gl X "list") (hm : X.mg "list" = none) (hg2 : Gl X "range") (hm2 : X.mg "range" = none) (ha : PE X a (tE (gx X cl) Wx ea)) (hs : starEach [a] X.env = [(false, eval a X.env)]) :
    PE X (.Call (.Name "list" p) [.Call (.Name "range" p2) [a] [] pos2] [] pos) (tE (gx X cl) Wx fun ρ h => (ea ρ h).bind fun x h => match x with
      | .int j => if -(2 ^ 62) ≤ j ∧ j ≤ 16777216 then .ok (.ref h.length) (h ++ [.lst (rng 0 (j - 0).toNat)]) else .err
      | _ => .err) :=
  conseq (pe_listRg hc hg hm (prg_1 hg2 hm2 ha hs)) fun σ H Q z => tR.bind z fun m ρ w v h H1 rs rh r z1 => by
    try dsimp only at z1
    split at z1
    · rename_i j
      split at z1
      · rename_i hj
        rw [r.int_of]
        exact ⟨j, rfl, ⟨by omega, by omega, by omega, by omega, by omega⟩, z1.newL rh (rep_rg 0 j)⟩
      · exact z1.no
    · exact z1.no
theorem s_lr2 {a b : Expr} {ea eb : En → Hw → Res W} {p p2 pos2 : Pos} (hc : X.calm = true) (hg : Gl X "list") (hm : X.mg "list" = none) (hg2 : Gl X "range") (hm2 : X.mg "range" = none) (ha : PE X a (tE (gx X cl) Wx ea)) (hb : PE X b (tE (gx X cl) Wx eb)) (hs : starEach [a, b] X.env = [(false, eval a X.env), (false, eval b X.env)]) (hs2 : starEach [b] X.env = [(false, eval b X.env)]) :
    PE X (.Call (.Name "list" p) [.Call (.Name "range" p2) [a, b] [] pos2] [] pos) (tE (gx X cl) Wx fun ρ h => (ea ρ h).bind fun x h => (eb ρ h).bind fun y h => match x, y with
      | .int i, .int j => if -(2 ^ 62) ≤ i ∧ i < 2 ^ 62 ∧ -(2 ^ 62) ≤ j ∧ j < 2 ^ 62 ∧ (j - i).toNat ≤ lim then .ok (.ref h.length) (h ++ [.lst (rng i (j - i).toNat)]) else .err
      | _, _ => .err) :=
  conseq (pe_listRg hc hg hm (prg_2 hg2 hm2 ha hb (by rw [hs, hs2]) hs2 (by rw [hs2]; rfl))) fun σ H Q z => tR.bind z fun m ρ w v h H1 rs rh r z1 => tR.next rs rh z1 fun m2 w2 v2 h2 H2 n rs2 rh2 r2 z2 => by
    try dsimp only at z2
    split at z2
    · rename_i i j
      split at z2
      · rename_i hj
        rw [(r.mono n).int_of, r2.int_of]
        exact ⟨i, j, rfl, rfl, ⟨hj.1, hj.2.1, hj.2.2.1, hj.2.2.2.1, hj.2.2.2.2⟩, z2.newL rh2 (rep_rg i j)⟩
      · exact z2.no
    · exact z2.no
end
end Ev

set_option Elab.async false
set_option linter.all false
set_option maxRecDepth 100000
/-! Ev7: calls of one's own defs, what is walked, comprehensions, statements. -/
namespace Ev
open PySem PySem.Spec PyProof.Rows L2

/-! ### calls of one's own defs -/
def spF (G : GX) (φ : List W → Hw → Res W) (n : Nat) : Sp := fun vs H Q E =>
  vs.length = n ∧ ∃ m h ws, RelH G.K m H h ∧ RepL G.K H m ws vs ∧ RV G (Rep G.K) m H (φ ws h) Q E
structure FnAt (X : Cx) (cl : List Value) (k : Nat) (φ : List W → Hw → Res W) (x : Str) (n : Nat) : Prop where
  ex : ∃ f fd ps, X.mg x = some (.ref f) ∧ PySem.W.keepIn X.K (.ref f) = true ∧ Binds X.K fd ps [] ∧ FnOk X.prog X.w X.K X.mg X.base (L2.CX X.prog X.w) k f fd ps (spF (gx X cl) φ n)
  ln : ∀ ws h, ws.length ≠ n → φ ws h = .err
section
variable {X : Cx} {cl : List Value} {Wx : WX} {pos p : Pos} {e : Expr} {es : List Expr} {ees : En → Hw → Res (List W)}
theorem s_call {k n : Nat} {φ : List W → Hw → Res W} {x : Str} (F : FnAt X cl k φ x n) (hr : Room k X.A) (hg : Gl X x) (tk : Takes X Wx) (ha : PA X (e :: es) (tEs (gx X cl) Wx ees)) (hdb : (x == ("__debug__" : Str)) = false)
    (he : starEach (e :: es) X.env = (false, eval e X.env) :: starEach es X.env) (hpl : (backTo pos (starEach es X.env)).any (·.1) = false) :
    PE X (.Call (.Name x p) (e :: es) [] pos) (tE (gx X cl) Wx fun ρ h => (ees ρ h).bind fun vs h => φ vs h) := by
  obtain ⟨f, fd, ps, hm, hk, hb, hF⟩ := F.ex
  refine conseq (pe_callS (E := WE Wx) hF hr hg hm hk hb (fun σ => passAt tk σ) ha hdb he hpl) fun σ H Q z => tR.bind z fun m ρ ws vs h H1 rs rh r z1 => ?_
  refine ⟨?_, m, h, ws, rh, r, z1⟩
  rw [← r.len]
  by_cases hl : ws.length = n
  · exact hl
  · rw [F.ln ws h hl] at z1
    exact z1.no

/-! ### what is walked -/
/-- a tuple that is only taken apart -/
def RepY (K : PySem.W.Frag) (H : Hp) (m : List Addr) : W → V → Prop
  | .tup xs, v => ∃ a vs, v = .ref a ∧ SqT K H a vs ∧ RepL K H m xs vs
  | w, v => Rep K H m w v
def RepG (K : PySem.W.Frag) (H : Hp) (m : List Addr) (ig : IG) (w : W) (v : V) : Prop := match ig with
  | .tup _ => RepY K H m w v
  | .var _ => Rep K H m w v
theorem Rep.g {K : PySem.W.Frag} {H : Hp} {m : List Addr} {ig : IG} {w : W} {v : V} (r : Rep K H m w v) : RepG K H m ig w v := by
  cases ig with
  | var i => exact r
  | tup ts =>
    cases w with
    | tup xs =>
      unfold Rep at r
      obtain ⟨a, vs, e, s, q⟩ := r
      exact ⟨a, vs, e, s.sq, q⟩
    | _ => exact r
def ItOk (G : GX) (ig : IG) (m0 : List Addr) (H0 : Hp) (J : It) (q : List W × Gu) : Prop := ∀ (i : Nat) (m : List Addr) (H : Hp) (h : Hw), Nx m0 H0 m H → RelH G.K m H h → guOk q.2 h →
  (∀ w, q.1[i]? = some w → J.go i H ∧ ∀ x H', J.yld i H x H' → Nx m H m H' ∧ RelH G.K m H' h ∧ RepG G.K H' m ig w x) ∧ (q.1.length ≤ i → J.stop i H)
def RI (G : GX) (ig : IG) : Hp → List Addr → List W × Gu → It → Prop := fun H m q J => ItOk G ig m H J q
abbrev tI (G : GX) (ig : IG) (Wx : WX) (ev : En → Hw → Res (List W × Gu)) : TI := tR G Wx (RI G ig) ev
theorem conseqI {tg e : Expr} {t t' : TI} (p : PI X tg e t) (h : ∀ σ H Q, t' σ H Q → t σ H Q) : PI X tg e t' := ⟨fun pins s σ H Q I z => p.run pins s σ H Q I (h σ H Q z)⟩
theorem PI.or {tg e : Expr} {t t' : TI} (p : PI X tg e t) (q : PI X tg e t') : PI X tg e (fun σ H Q => t σ H Q ∨ t' σ H Q) := ⟨fun pins s σ H Q I z => z.elim (p.run pins s σ H Q I) (q.run pins s σ H Q I)⟩
section
variable {G : GX} {m0 : List Addr} {H0 : Hp} {q : List W × Gu × Bool} {a : Addr} {ig : IG} {ts : List IG}
/-- a list where it stands, at every later state -/
def AtL (G : GX) (m0 : List Addr) (H0 : Hp) (q : List W × Gu × Bool) (a : Addr) : Prop := ∀ m H h, Nx m0 H0 m H → RelH G.K m H h → guOk q.2.1 h → ∃ vs, SqL G.K H a vs ∧ RepL G.K H m q.1 vs
def AtT (G : GX) (m0 : List Addr) (H0 : Hp) (q : List W × Gu × Bool) (a : Addr) : Prop := ∀ m H h, Nx m0 H0 m H → RelH G.K m H h → ∃ vs, SqT G.K H a vs ∧ RepL G.K H m q.1 vs
theorem src_at {v : V} (s : Src G.K H0 m0 q v) : ∃ a, v = .ref a ∧ ((q.2.2 = true ∧ AtT G m0 H0 q a) ∨ (q.2.2 = false ∧ AtL G m0 H0 q a)) := by
  obtain ⟨a, vs, e, r, s⟩ := s
  refine ⟨a, e, ?_⟩
  rcases s with ⟨s, k⟩ | ⟨k, s⟩
  · exact .inl ⟨k, fun m H h n rh => ⟨vs, (s.mono n).sq, r.mono n⟩⟩
  · refine .inr ⟨k, fun m H h n rh g => ?_⟩
    rcases s with s | s | ⟨i, e1, s, e2⟩
    · exact ⟨vs, (s.mono n).sq, r.mono n⟩
    · exact ⟨vs, .of (s.mono n).1, r.mono n⟩
    · have hl : h[i]? = some (.lst q.1) := g (i, q.1) (by rw [e2]; exact List.mem_cons_self)
      obtain ⟨vs', f, r'⟩ := rh.lst hl (n.get e1)
      exact ⟨vs', .of f, r'⟩
theorem itl_ok (h : AtL G m0 H0 q a) : ItOk G ig m0 H0 (Itl G.K a) (q.1, q.2.1) := fun i m H hw n rh g => by
  obtain ⟨vs, s, r⟩ := h m H hw n rh g
  refine ⟨fun w hw => ?_, fun hl => ⟨vs, s, by rw [← r.len]; exact hl⟩⟩
  obtain ⟨v, hv, rv⟩ := r.get hw
  refine ⟨⟨vs, v, s, hv⟩, fun x H' y => ?_⟩
  obtain ⟨rfl, y⟩ := y
  have e : some x = some v := (y vs s).symm.trans hv
  cases e
  exact ⟨.refl, rh, rv.g⟩
theorem itt_ok (h : AtT G m0 H0 q a) : ItOk G ig m0 H0 (Itt G.K a) (q.1, q.2.1) := fun i m H hw n rh g => by
  obtain ⟨vs, s, r⟩ := h m H hw n rh
  refine ⟨fun w hw => ?_, fun hl => ⟨vs, s, by rw [← r.len]; exact hl⟩⟩
  obtain ⟨v, hv, rv⟩ := r.get hw
  refine ⟨⟨vs, v, s, hv⟩, fun x H' y => ?_⟩
  obtain ⟨rfl, y⟩ := y
  have e : some x = some v := (y vs s).symm.trans hv
  cases e
  exact ⟨.refl, rh, rv.g⟩
theorem rng_get {lo : Int} {n i : Nat} {w : W} (h : (rng lo n)[i]? = some w) : i < n ∧ w = .int (lo + i) := by
  unfold rng at h
  rw [List.getElem?_map] at h
  cases e : (List.range n)[i]? with
  | none => rw [e] at h; cases h
  | some j =>
    rw [e] at h; cases h
    obtain ⟨h1, h2⟩ := List.getElem?_eq_some_iff.mp e
    rw [List.getElem_range] at h2
    subst h2
    exact ⟨by simpa using h1, rfl⟩
theorem rng_len (lo : Int) (n : Nat) : (rng lo n).length = n := by unfold rng; simp
theorem itr_ok {lo : Int} {n : Nat} : ItOk G ig m0 H0 (Itr lo n) (rng lo n, []) := fun i m H hw nx rh g => by
  refine ⟨fun w hw => ?_, fun hl => ?_⟩
  · obtain ⟨h1, rfl⟩ := rng_get hw
    refine ⟨h1, fun x H' y => ?_⟩
    obtain ⟨rfl, rfl⟩ := y
    exact ⟨.refl, rh, Rep.g .int'⟩
  · rw [rng_len] at hl; exact hl
theorem zip_get {xs ys : List W} {i : Nat} {w : W} (h : ((xs.zip ys).map fun z => W.tup [z.1, z.2])[i]? = some w) : ∃ x y, xs[i]? = some x ∧ ys[i]? = some y ∧ w = .tup [x, y] := by
  rw [List.getElem?_map] at h
  cases e : (xs.zip ys)[i]? with
  | none => rw [e] at h; cases h
  | some z =>
    rw [e] at h; cases h
    obtain ⟨x, y⟩ := z
    rw [List.getElem?_zip_eq_some] at e
    exact ⟨x, y, e.1, e.2, rfl⟩
theorem pair_ok {m : List Addr} {H : Hp} {hw : Hw} {T : Addr} {x y : W} {v u : V} (rh : RelH G.K m H hw) (nT : H T = none) (r1 : Rep G.K H m x v) (r2 : Rep G.K H m y u) :
    Nx m H m (upd H T (.tup [v, u])) ∧ RelH G.K m (upd H T (.tup [v, u])) hw ∧ RepG G.K (upd H T (.tup [v, u])) m (.tup ts) (.tup [x, y]) (.ref T) :=
  ⟨Nx.laid nT, rh.laid nT, ⟨T, _, rfl, .inl (.inl upd_same), .cons (r1.mono (Nx.laid nT)) (.cons (r2.mono (Nx.laid nT)) .nil)⟩⟩
theorem itz_ok {q2 : List W × Gu × Bool} {b : Addr} (h1 : AtL G m0 H0 q a) (h2 : AtL G m0 H0 q2 b) : ItOk G (.tup ts) m0 H0 (Itz G.K a b) ((q.1.zip q2.1).map fun z => .tup [z.1, z.2], q.2.1 ++ q2.2.1) := fun i m H hw n rh g => by
  obtain ⟨vs, s, r⟩ := h1 m H hw n rh fun p hp => g p (List.mem_append_left _ hp)
  obtain ⟨us, s2, r2⟩ := h2 m H hw n rh fun p hp => g p (List.mem_append_right _ hp)
  refine ⟨fun w hw => ?_, fun hl => ⟨vs, us, s, s2, ?_⟩⟩
  · obtain ⟨x, y, e1, e2, rfl⟩ := zip_get hw
    obtain ⟨v, hv, rv⟩ := r.get e1
    obtain ⟨u, hu, ru⟩ := r2.get e2
    refine ⟨⟨vs, us, v, u, s, s2, hv, hu⟩, fun x' H' y' => ?_⟩
    obtain ⟨T, v', u', rfl, nT, rfl, f1, f2⟩ := y'
    cases (f1 vs s).symm.trans hv
    cases (f2 us s2).symm.trans hu
    exact pair_ok rh nT rv ru
  · rw [← r.len, ← r2.len]
    simp only [List.length_map, List.length_zip] at hl
    omega
theorem itzT_ok {q2 : List W × Gu × Bool} {b : Addr} (h1 : AtT G m0 H0 q a) (h2 : AtT G m0 H0 q2 b) : ItOk G (.tup ts) m0 H0 (RZ.ItzT G.K a b) ((q.1.zip q2.1).map fun z => .tup [z.1, z.2], q.2.1 ++ q2.2.1) := fun i m H hw n rh g => by
  obtain ⟨vs, s, r⟩ := h1 m H hw n rh
  obtain ⟨us, s2, r2⟩ := h2 m H hw n rh
  refine ⟨fun w hw => ?_, fun hl => ⟨vs, us, s, s2, ?_⟩⟩
  · obtain ⟨x, y, e1, e2, rfl⟩ := zip_get hw
    obtain ⟨v, hv, rv⟩ := r.get e1
    obtain ⟨u, hu, ru⟩ := r2.get e2
    refine ⟨⟨vs, us, v, u, s, s2, hv, hu⟩, fun x' H' y' => ?_⟩
    obtain ⟨T, v', u', rfl, nT, rfl, f1, f2⟩ := y'
    cases (f1 vs s).symm.trans hv
    cases (f2 us s2).symm.trans hu
    exact pair_ok rh nT rv ru
  · rw [← r.len, ← r2.len]
    simp only [List.length_map, List.length_zip] at hl
    omega
theorem enum_get {xs : List W} {i : Nat} {w : W} (h : (((List.range xs.length).zip xs).map fun z => W.tup [.int (z.1 : Nat), z.2])[i]? = some w) : ∃ x, xs[i]? = some x ∧ w = .tup [.int (i : Nat), x] := by
  rw [List.getElem?_map] at h
  cases e : ((List.range xs.length).zip xs)[i]? with
  | none => rw [e] at h; cases h
  | some z =>
    rw [e] at h; cases h
    obtain ⟨j, y⟩ := z
    rw [List.getElem?_zip_eq_some] at e
    obtain ⟨e1, e2⟩ := e
    obtain ⟨_, e3⟩ := List.getElem?_eq_some_iff.mp e1
    rw [List.getElem_range] at e3
    subst e3
    exact ⟨y, e2, rfl⟩
theorem ite_ok (h : AtL G m0 H0 q a) : ItOk G (.tup ts) m0 H0 (Ite G.K a) (((List.range q.1.length).zip q.1).map fun z => .tup [.int (z.1 : Nat), z.2], q.2.1) := fun i m H hw n rh g => by
  obtain ⟨vs, s, r⟩ := h m H hw n rh g
  refine ⟨fun w hw => ?_, fun hl => ⟨vs, s, ?_⟩⟩
  · obtain ⟨x, e1, rfl⟩ := enum_get hw
    obtain ⟨v, hv, rv⟩ := r.get e1
    refine ⟨⟨vs, v, s, hv⟩, fun x' H' y' => ?_⟩
    obtain ⟨T, v', rfl, nT, rfl, f1⟩ := y'
    cases (f1 vs s).symm.trans hv
    exact pair_ok rh nT .int' rv
  · rw [← r.len]
    simp only [List.length_map, List.length_zip, List.length_range] at hl
    omega
end
variable {el el2 : En → Hw → Res (List W × Gu × Bool)} {tg e2 : Expr} {ig : IG} {ts : List IG}
theorem s_iL (he : PE X e (tL (gx X cl) Wx el)) : PI X tg e (tI (gx X cl) ig Wx fun ρ h => (el ρ h).bind fun q h => .ok (q.1, q.2.1) h) :=
  conseqI (PI.or (pi_list he) (pi_tup he)) fun σ H R ⟨m, ρ, h, rs, rh, z⟩ => by
    try dsimp only at z
    cases e1 : el ρ h with
    | ok q h' =>
      rw [e1] at z
      cases hk : q.2.2 with
      | true =>
        refine .inr ⟨m, ρ, h, rs, rh, ?_⟩
        rw [e1]
        intro m' H' v n rh' s
        obtain ⟨a, rfl, ⟨_, at1⟩ | ⟨k, _⟩⟩ := src_at (G := gx X cl) s
        · obtain ⟨vs, sq, _⟩ := at1 m' H' h' .refl rh'
          exact ⟨a, rfl, ⟨vs, sq⟩, z m' H' _ n rh' (itt_ok at1)⟩
        · rw [hk] at k; cases k
      | false =>
        refine .inl ⟨m, ρ, h, rs, rh, ?_⟩
        rw [e1]
        intro m' H' v n rh' s
        obtain ⟨a, rfl, ⟨k, _⟩ | ⟨_, at1⟩⟩ := src_at (G := gx X cl) s
        · rw [hk] at k; cases k
        · obtain ⟨a', vs, e', r', _⟩ := id s
          cases e'
          refine ⟨a, rfl, ?_, z m' H' _ n rh' (itl_ok at1)⟩
          obtain ⟨a'', us, e'', _, sq⟩ := s.sq
          cases e''
          obtain ⟨_, _, e3, _, s3⟩ := s
          cases e3
          rcases s3 with ⟨_, k⟩ | ⟨_, s3 | s3 | ⟨i, _, s3, _⟩⟩
          · rw [hk] at k; cases k
          · exact ⟨_, s3.sq⟩
          · exact ⟨_, .of s3.1⟩
          · exact ⟨_, .of s3⟩
    | exc x h' =>
      rw [e1] at z
      refine .inl ⟨m, ρ, h, rs, rh, ?_⟩
      rw [e1]; exact z
    | err => rw [e1] at z; exact z.no
/-- a list that is listed as such -/
theorem src_lst {m : List Addr} {H : Hp} {q : List W × Gu × Bool} {v : V} (s : Src (gx X cl).K H m q v) (k : q.2.2 = false) : ∃ a vs, v = .ref a ∧ SqL X.K H a vs := by
  obtain ⟨a, vs, e, r, s3⟩ := s
  rcases s3 with ⟨_, k'⟩ | ⟨_, s3 | s3 | ⟨i, _, s3, _⟩⟩
  · rw [k] at k'; cases k'
  · exact ⟨a, vs, e, s3.sq⟩
  · exact ⟨a, vs, e, .of s3.1⟩
  · exact ⟨a, vs, e, .of s3⟩
theorem src_tup {m : List Addr} {H : Hp} {q : List W × Gu × Bool} {v : V} (s : Src (gx X cl).K H m q v) (k : q.2.2 = true) : ∃ a vs, v = .ref a ∧ SqT X.K H a vs := by
  obtain ⟨a, vs, e, r, s3⟩ := s
  rcases s3 with ⟨s3, _⟩ | ⟨k', _⟩
  · exact ⟨a, vs, e, s3.sq⟩
  · rw [k] at k'; cases k'
theorem at_of {m m' : List Addr} {H H' : Hp} {q : List W × Gu × Bool} {a : Addr} (n : Nx m H m' H') (h : AtL (gx X cl) m H q a) : AtL (gx X cl) m' H' q a := fun m2 H2 h2 n2 rh g => h m2 H2 h2 (n.trans n2) rh g
theorem atT_of {m m' : List Addr} {H H' : Hp} {q : List W × Gu × Bool} {a : Addr} (n : Nx m H m' H') (h : AtT (gx X cl) m H q a) : AtT (gx X cl) m' H' q a := fun m2 H2 h2 n2 rh => h m2 H2 h2 (n.trans n2) rh
theorem s_enum {elts : List Expr} {kk : Nat} {tpos : Pos} (hg : Gl X "enumerate") (hm : X.mg "enumerate" = none) (he : PE X e (tL (gx X cl) Wx el)) (hs : starEach [e] X.env = [(false, eval e X.env)]) :
    PI X (.Tuple elts kk tpos) (.Call (.Name "enumerate" p) [e] [] pos) (tI (gx X cl) (.tup ts) Wx fun ρ h => (el ρ h).bind fun p h => if p.2.2 = false then .ok (((List.range p.1.length).zip p.1).map fun z => .tup [.int (z.1 : Nat), z.2], p.2.1) h else .err) :=
  conseqI (pi_enum hg hm (s_one1 he hs) hs) fun σ H R z => tR.bind z fun m ρ q v h H1 rs rh s z1 => by
    try dsimp only at z1
    split at z1
    · rename_i hk
      obtain ⟨a, rfl, ⟨k, _⟩ | ⟨_, at1⟩⟩ := src_at (G := gx X cl) s
      · rw [hk] at k; cases k
      · obtain ⟨a', vs, e', sq⟩ := src_lst s hk
        cases e'
        exact ⟨a, vs, rfl, sq, z1.here rh (ite_ok at1)⟩
    · exact z1.no
variable {a b : Expr} {ea eb : En → Hw → Res W}
theorem s_rng1 (hg : Gl X "range") (hm : X.mg "range" = none) (ha : PE X a (tE (gx X cl) Wx ea)) (hs : starEach [a] X.env = [(false, eval a X.env)]) :
    PI X tg (.Call (.Name "range" p) [a] [] pos) (tI (gx X cl) ig Wx fun ρ h => (ea ρ h).bind fun x h => match x with
      | .int j => if -(2 ^ 62) ≤ j ∧ j < 2 ^ 62 then .ok (rng 0 j.toNat, []) h else .err
      | _ => .err) :=
  conseqI (pi_range1 hg hm (pa_cons ha pa_nil hs) hs) fun σ H R z => tR.bind z fun m ρ w v h H1 rs rh r z1 => by
    try dsimp only at z1
    split at z1
    · rename_i j
      split at z1
      · rename_i hj
        rw [r.int_of]
        exact ⟨j, rfl, hj.1, hj.2, z1.here rh itr_ok⟩
      · exact z1.no
    · exact z1.no
theorem s_rng2 (hg : Gl X "range") (hm : X.mg "range" = none) (ha : PE X a (tE (gx X cl) Wx ea)) (hb : PE X b (tE (gx X cl) Wx eb)) (hs : starEach [a, b] X.env = [(false, eval a X.env), (false, eval b X.env)]) (hs2 : starEach [b] X.env = [(false, eval b X.env)]) :
    PI X tg (.Call (.Name "range" p) [a, b] [] pos) (tI (gx X cl) ig Wx fun ρ h => (ea ρ h).bind fun x h => (eb ρ h).bind fun y h => match x, y with
      | .int i, .int j => if -(2 ^ 62) ≤ i ∧ i < 2 ^ 62 ∧ -(2 ^ 62) ≤ j ∧ j < 2 ^ 62 then .ok (rng i (j - i).toNat, []) h else .err
      | _, _ => .err) :=
  conseqI (pi_range2 hg hm (pa_cons ha (pa_cons hb pa_nil hs2) (by rw [hs, hs2])) hs hs2) fun σ H R z => tR.bind z fun m ρ w v h H1 rs rh r z1 => tR.next rs rh z1 fun m2 w2 v2 h2 H2 n rs2 rh2 r2 z2 => by
    try dsimp only at z2
    split at z2
    · rename_i i j
      split at z2
      · rename_i hj
        rw [(r.mono n).int_of, r2.int_of]
        exact ⟨i, j, rfl, hj, z2.here rh2 itr_ok⟩
      · exact z2.no
    · exact z2.no
end
end Ev

set_option Elab.async false
set_option linter.all false
set_option maxRecDepth 100000
/-! Ev8: targets, comprehensions, statements, defs. -/
namespace Ev
open PySem PySem.Spec PyProof.Rows L2

/-! ### targets -/
mutual
def gG (K : PySem.W.Frag) : IG → TG
  | .var i => gName i
  | .tup ts => gTup K ts.length (gGs K ts)
def gGs (K : PySem.W.Frag) : List IG → TGs
  | [] => gNil
  | t :: ts => gCons (gG K t) (gGs K ts)
end
mutual
def slots : IG → List Nat
  | .var i => [i]
  | .tup ts => slotss ts
def slotss : List IG → List Nat
  | [] => []
  | t :: ts => slots t ++ slotss ts
end
theorem wipe_set {σ : L2.St} {i : Nat} {x : Option V} : ∀ {vs : List Nat}, i ∈ vs → L2.wipe (σ.set i x) vs = L2.wipe σ vs
  | [], h => absurd h (by simp)
  | v :: vs, h => by
    show (L2.wipe (σ.set i x) vs).set v none = (L2.wipe σ vs).set v none
    by_cases hm : i ∈ vs
    · rw [wipe_set hm]
    · have hv : i = v := by
        rcases List.mem_cons.mp h with z | z
        · exact z
        · exact absurd z hm
      subst hv
      apply List.ext_getElem?
      intro j
      by_cases hj : i = j
      · subst hj
        by_cases hl : i < σ.length
        · rw [List.getElem?_set_self (by rw [wipe_length]; simpa using hl), List.getElem?_set_self (by rw [wipe_length]; exact hl)]
        · rw [List.getElem?_eq_none (by simp [wipe_length]; omega), List.getElem?_eq_none (by simp [wipe_length]; omega)]
      · rw [List.getElem?_set_ne hj, List.getElem?_set_ne hj]
        by_cases hjm : j ∈ vs
        · -- both are wiped at j
          have key : ∀ (τ : L2.St) (us : List Nat), j ∈ us → (L2.wipe τ us)[j]? = if j < τ.length then some none else none := by
            intro τ us
            induction us with
            | nil => intro h; simp at h
            | cons u us ih =>
              intro h
              show ((L2.wipe τ us).set u none)[j]? = _
              by_cases hu : u = j
              · subst hu
                by_cases hl : u < τ.length
                · rw [List.getElem?_set_self (by rw [wipe_length]; exact hl), if_pos hl]
                · rw [List.getElem?_eq_none (by simp [wipe_length]; omega), if_neg hl]
              · rw [List.getElem?_set_ne hu]
                exact ih ((List.mem_cons.mp h).resolve_left fun z => hu z.symm)
          rw [key _ _ hjm, key _ _ hjm]
          simp
        · rw [wipe_out hjm, wipe_out hjm, List.getElem?_set_ne hj]
theorem wipe_wipe (σ : L2.St) : ∀ vs : List Nat, L2.wipe (L2.wipe σ vs) vs = L2.wipe σ vs := fun vs => by
  apply List.ext_getElem?
  intro j
  by_cases hjm : j ∈ vs
  · have key : ∀ (τ : L2.St) (us : List Nat), j ∈ us → (L2.wipe τ us)[j]? = if j < τ.length then some none else none := by
      intro τ us
      induction us with
      | nil => intro h; simp at h
      | cons u us ih =>
        intro h
        show ((L2.wipe τ us).set u none)[j]? = _
        by_cases hu : u = j
        · subst hu
          by_cases hl : u < τ.length
          · rw [List.getElem?_set_self (by rw [wipe_length]; exact hl), if_pos hl]
          · rw [List.getElem?_eq_none (by simp [wipe_length]; omega), if_neg hl]
        · rw [List.getElem?_set_ne hu]
          exact ih ((List.mem_cons.mp h).resolve_left fun z => hu z.symm)
    rw [key _ _ hjm, key _ _ hjm, wipe_length]
  · rw [wipe_out hjm]
section
variable {G : GX} {m : List Addr} {H : Hp}
mutual
theorem gG_ok : ∀ (t : IG) {w : W} {v : V} {ρ ρ' : En} {σ : L2.St} {Q : L2.St → Hp → Prop}, RepS G.K H m ρ σ → Rep G.K H m w v → asg t w ρ = some ρ' →
    (∀ σ', RepS G.K H m ρ' σ' → (∀ vs, (∀ i ∈ slots t, i ∈ vs) → L2.wipe σ' vs = L2.wipe σ vs) → Q σ' H) → gG G.K t v σ H Q
  | .var i, w, v, ρ, ρ', σ, Q, rs, r, e, k => by
    unfold asg at e; cases e
    unfold gG
    exact k _ (rs.setS r i) fun vs hv => wipe_set (hv i (by unfold slots; simp))
  | .tup ts, w, v, ρ, ρ', σ, Q, rs, r, e, k => by
    cases w with
    | tup ws =>
      unfold asg at e
      split at e
      · rename_i hl
        obtain ⟨a, vs, rfl, s, q⟩ := r.tup_of
        unfold gG
        exact ⟨a, vs, rfl, s.sq, by rw [← q.len, hl], gGs_ok ts rs q hl e fun σ' rs' wi => k σ' rs' fun us hu => wi us (by unfold slots at hu; exact hu)⟩
      · cases e
    | _ => unfold asg at e; cases e
theorem gGs_ok : ∀ (ts : List IG) {ws : List W} {vs : List V} {ρ ρ' : En} {σ : L2.St} {Q : L2.St → Hp → Prop}, RepS G.K H m ρ σ → RepL G.K H m ws vs → ts.length = ws.length → asgs ts ws ρ = some ρ' →
    (∀ σ', RepS G.K H m ρ' σ' → (∀ vs, (∀ i ∈ slotss ts, i ∈ vs) → L2.wipe σ' vs = L2.wipe σ vs) → Q σ' H) → gGs G.K ts vs σ H Q
  | [], ws, vs, ρ, ρ', σ, Q, rs, r, hl, e, k => by
    have : ws = [] := List.eq_nil_of_length_eq_zero hl.symm
    subst this
    unfold RepL at r; subst r
    unfold asgs at e; cases e
    unfold gGs
    exact ⟨rfl, k σ rs fun _ _ => rfl⟩
  | t :: ts, [], vs, ρ, ρ', σ, Q, rs, r, hl, e, k => by simp at hl
  | t :: ts, w :: ws, vs, ρ, ρ', σ, Q, rs, r, hl, e, k => by
    obtain ⟨v, q, rfl, r1, r2⟩ := r.uncons
    unfold asgs at e
    split at e
    · rename_i ρ1 e1
      unfold gGs
      refine ⟨v, q, rfl, gG_ok t rs r1 e1 fun σ1 rs1 w1 => gGs_ok ts rs1 r2 (by simpa using hl) e fun σ2 rs2 w2 => k σ2 rs2 fun us hu => ?_⟩
      rw [w2 us fun i hi => hu i (by unfold slotss; exact List.mem_append_right _ hi)]
      exact w1 us fun i hi => hu i (by unfold slotss; exact List.mem_append_left _ hi)
    · cases e
end
end

section
variable {G : GX} {m : List Addr} {H : Hp}
theorem gG_okG (t : IG) {w : W} {v : V} {ρ ρ' : En} {σ : L2.St} {Q : L2.St → Hp → Prop} (rs : RepS G.K H m ρ σ) (r : RepG G.K H m t w v) (e : asg t w ρ = some ρ')
    (k : ∀ σ', RepS G.K H m ρ' σ' → (∀ vs, (∀ i ∈ slots t, i ∈ vs) → L2.wipe σ' vs = L2.wipe σ vs) → Q σ' H) : gG G.K t v σ H Q := by
  cases t with
  | var i => exact gG_ok (.var i) rs r e k
  | tup ts =>
    cases w with
    | tup ws =>
      unfold asg at e
      split at e
      · rename_i hl
        obtain ⟨a, vs, rfl, s, q⟩ := (show RepY G.K H m (.tup ws) v from r)
        unfold gG
        exact ⟨a, vs, rfl, s, by rw [← q.len, hl], gGs_ok ts rs q hl e fun σ' rs' wi => k σ' rs' fun us hu => wi us (by unfold slots at hu; exact hu)⟩
      · cases e
    | _ => unfold asg at e; cases e
end
/-! ### comprehensions -/
theorem guard_ok {α : Type} {g : Gu} {h : Hw} {r r' : Res α} (e : guard g h r = r') (hn : r' ≠ .err) : guOk g h ∧ r = r' := by
  unfold guard at e
  split at e
  · rename_i hg; exact ⟨hg, e⟩
  · exact absurd e.symm hn
section
variable {G : GX} {Wx : WX} {σ : L2.St} {H : Hp} {Q : VK}
abbrev noX : WX := fun _ _ _ _ => False
theorem tLc_of {α : Type} {R' : Hp → List Addr → α → V → Prop} {ei : En → Hw → Res (List W × Gu)} {et : En → Hw → Res Bool} {ee : En → Hw → Res W} {ig : IG} {own : List Nat} {kk : List W → Hw → Res α}
    (hsl : ∀ i ∈ slots ig, i ∈ own)
    (z : tR G Wx R' (fun ρ h => (ei ρ h).bind fun q h => (compL ig q.2 et ee own ρ q.1 h []).bind kk) σ H Q)
    (hk : ∀ m0 H0 m1 H1 h1 D ys vs, Nx m0 H0 m1 H1 → H0 D = none → RelH G.K m1 H1 h1 → Air H1 m1 D vs → RepL G.K H1 m1 ys vs → RV G R' m0 H0 (kk ys h1) Q (fun c d H' => Wx c d σ H') → Q (.ref D) H1) :
    tLc (tI G ig Wx ei) (gG G.K ig) (tT G noX et) (tE G noX ee) own σ H Q :=
  tR.bind z fun m0 ρ q J h0 H0 rs rh it z1 => fun D hD => by
    have ne : compL ig q.2 et ee own ρ q.1 h0 [] ≠ .err := fun e => by rw [e] at z1; exact z1.no
    generalize hfull : compL ig q.2 et ee own ρ q.1 h0 [] = full at z1 ne
    refine ⟨fun i mm H => ∃ m1 h1 accV accW, Nx m0 H0 m1 H ∧ RelH G.K m1 H h1 ∧ Air H m1 D accV ∧ RepL G.K H m1 accW accV ∧ mm = q.1.length - i ∧ i ≤ q.1.length ∧ compL ig q.2 et ee own ρ (q.1.drop i) h1 accW = full,
      ⟨q.1.length, m0, h0, [], [], Nx.airNew .refl hD, rh.laid hD, ⟨upd_same, rh.free hD⟩, .nil, by simp, Nat.zero_le _, by simpa using hfull⟩, ?_⟩
    rintro i mm H1 ⟨m1, h1, accV, accW, n1, rh1, air, ra, rfl, hi, hc⟩
    obtain hlt | heq := Nat.lt_or_eq_of_le hi
    · -- a turn
      have hd : q.1.drop i = q.1[i] :: q.1.drop (i + 1) := List.drop_eq_getElem_cons hlt
      rw [hd] at hc
      unfold compL at hc
      obtain ⟨gu, hc⟩ := guard_ok hc ne
      obtain ⟨go, yl⟩ := (it i m1 H1 h1 n1 rh1 gu).1 q.1[i] (List.getElem?_eq_getElem hlt)
      refine .inr ⟨go, fun H' => ∃ m1 h1 accV accW, Nx m0 H0 m1 H' ∧ RelH G.K m1 H' h1 ∧ Air H' m1 D accV ∧ RepL G.K H' m1 accW accV ∧ compL ig q.2 et ee own ρ (q.1.drop (i + 1)) h1 accW = full, fun H' ⟨m2, h2, av, aw, a1, a2, a3, a4, a5⟩ => ⟨q.1.length - (i + 1), by omega, m2, h2, av, aw, a1, a2, a3, a4, rfl, hlt, a5⟩, fun x H2 y => ?_⟩
      obtain ⟨n2, rh2, rx⟩ := yl x H2 y
      have n02 := n1.trans n2
      split at hc
      · exact absurd hc.symm ne
      · rename_i ρ' ea
        refine gG_okG (G := G) (m := m1) ig ((rs.mono n02).wipe own) rx ea fun σ2 rs2 wi => ⟨?_, ?_⟩
        · rw [wi own hsl, wipe_wipe]
        · refine ⟨m1, ρ', h1, rs2, rh2, ?_⟩
          split at hc
          · rename_i h3 et1
            rw [et1]
            intro m3 H3 b n3 rh3 e3
            rw [show b = true from e3]
            refine iteT ⟨m3, ρ', h3, rs2.mono n3, rh3, ?_⟩
            split at hc
            · rename_i yw h4 ee1
              rw [ee1]
              intro m4 H4 yv n4 rh4 ry
              split at hc
              · rename_i hl
                have n14 := (n2.trans n3).trans n4
                have air4 := air.mono n14
                refine ⟨accV, air4.1, by rw [← ra.len, ← lim_eq]; exact hl, m4, h4, accV ++ [yv], accW ++ [yw], (n1.trans n14).airNew hD, rh4.air air4.1 air4.2, ⟨upd_same, air4.2⟩, (RepL.air air4.1 ((ra.mono n14).append (.cons ry .nil))), hc⟩
              · exact absurd hc.symm ne
            · exact absurd hc.symm ne
          · rename_i h3 et1
            rw [et1]
            intro m3 H3 b n3 rh3 e3
            rw [show b = false from e3]
            have n13 := n2.trans n3
            exact iteF ⟨m3, h3, accV, accW, n1.trans n13, rh3, air.mono n13, ra.mono n13, hc⟩
          · exact absurd hc.symm ne
    · -- the end
      rw [heq, List.drop_length] at hc
      unfold compL at hc
      obtain ⟨gu, hc⟩ := guard_ok hc ne
      subst hc
      exact .inl ⟨(it i m1 H1 h1 n1 rh1 gu).2 (Nat.le_of_eq heq.symm), hk m0 H0 m1 H1 h1 D accW accV n1 hD rh1 air ra z1⟩
/-- as items -/
theorem tLc_items {ei : En → Hw → Res (List W × Gu)} {et : En → Hw → Res Bool} {ee : En → Hw → Res W} {ig : IG} {own : List Nat} (hsl : ∀ i ∈ slots ig, i ∈ own)
    (z : tL G Wx (fun ρ h => (ei ρ h).bind fun q h => (compL ig q.2 et ee own ρ q.1 h []).bind fun ys h => .ok (ys, [], false) h) σ H Q) :
    tLc (tI G ig Wx ei) (gG G.K ig) (tT G noX et) (tE G noX ee) own σ H Q :=
  tLc_of hsl z fun m0 H0 m1 H1 h1 D ys vs n hD rh air r z1 => z1 m1 H1 _ n rh ⟨D, vs, rfl, r, .inr ⟨rfl, .inr (.inl air)⟩⟩
/-- as a new list -/
theorem tLc_list {ei : En → Hw → Res (List W × Gu)} {et : En → Hw → Res Bool} {ee : En → Hw → Res W} {ig : IG} {own : List Nat} (hsl : ∀ i ∈ slots ig, i ∈ own)
    (z : tE G Wx (fun ρ h => ((ei ρ h).bind fun q h => (compL ig q.2 et ee own ρ q.1 h []).bind fun ys h => Res.ok (ys, ([] : Gu), false) h).bind fun q h => .ok (.ref h.length) (h ++ [.lst q.1])) σ H Q) :
    tLc (tI G ig Wx ei) (gG G.K ig) (tT G noX et) (tE G noX ee) own σ H Q := by
  have z' : tE G Wx (fun ρ h => (ei ρ h).bind fun q h => (compL ig q.2 et ee own ρ q.1 h []).bind fun ys h => .ok (.ref h.length) (h ++ [.lst ys])) σ H Q := by
    obtain ⟨m, ρ, h, rs, rh, z⟩ := z
    refine ⟨m, ρ, h, rs, rh, ?_⟩
    simp only [Res.bind_assoc, Res.bind_ok] at z
    exact z
  refine tLc_of hsl z' fun m0 H0 m1 H1 h1 D ys vs n hD rh air r z1 => ?_
  obtain ⟨rh2, ad⟩ := rh.adopt air.1 air.2 r
  refine z1 (m1 ++ [D]) H1 _ ⟨?_, n.fr, fun a ha hm => ?_, n.kd, n.fz⟩ rh2 (.ref' (by rw [← rh.len, List.getElem?_append_right (Nat.le_refl _)]; simp))
  · obtain ⟨t, rfl⟩ := n.pre
    exact ⟨t ++ [D], by rw [List.append_assoc]⟩
  · rcases List.mem_append.mp ha with ha | ha
    · exact n.new a ha hm
    · rw [List.mem_singleton.mp ha]; exact hD
end

/-! ### statements -/
section
variable (G : GX) (Wx : WX)
def FlOk (f : Fl) (ρ' : En) (m' : List Addr) (H' : Hp) (D : Ends) : Prop :=
  match f with
  | .next => ∀ σ', RepS G.K H' m' ρ' σ' → D.nx σ' H'
  | .brk => ∀ σ', RepS G.K H' m' ρ' σ' → D.bk σ' H'
  | .cont => ∀ σ', RepS G.K H' m' ρ' σ' → D.ct σ' H'
  | .ret w => ∀ v, Rep G.K H' m' w v → D.rt v H'
  | .rz e => ∀ σ' c d, RepS G.K H' m' ρ' σ' → RepX G H' m' e c d → Wx c d σ' H'
def RSt (m : List Addr) (H : Hp) (r : Rs) (D : Ends) : Prop :=
  match r with
  | .ok (f, ρ') h' => ∀ m' H', Nx m H m' H' → RelH G.K m' H' h' → FlOk G Wx f ρ' m' H' D
  | _ => False
def tS (ev : En → Hw → Rs) : TS := fun D σ H => ∃ m ρ h, RepS G.K H m ρ σ ∧ RelH G.K m H h ∧ RSt G Wx m H (ev ρ h) D
end
section
variable {G : GX} {Wx : WX} {m m1 : List Addr} {H H1 : Hp} {h : Hw} {D : Ends} {ρ : En} {σ : L2.St}
theorem RSt.down {r : Rs} (x : Nx m H m1 H1) (z : RSt G Wx m H r D) : RSt G Wx m1 H1 r D := by
  cases r with
  | ok a h' =>
    obtain ⟨f, ρ'⟩ := a
    exact fun m' H' n r => z m' H' (x.trans n) r
  | exc e h' => exact z
  | err => exact z
theorem RSt.here {f : Fl} {ρ' : En} (z : RSt G Wx m H (.ok (f, ρ') h) D) (rh : RelH G.K m H h) : FlOk G Wx f ρ' m H D := z m H .refl rh
/-- from a statement's result to that of its expression -/
theorem RSt.st {α β : Type} {R : Hp → List Addr → α → β → Prop} {r : Res α} {f : α → Hw → Rs} (rs : RepS G.K H m ρ σ) (z : RSt G Wx m H (r.st ρ f) D) :
    RV G R m H r (fun b H1 => ∃ m1 a h1, Nx m H m1 H1 ∧ RepS G.K H1 m1 ρ σ ∧ RelH G.K m1 H1 h1 ∧ R H1 m1 a b ∧ RSt G Wx m1 H1 (f a h1) D) (fun c d H' => Wx c d σ H') := by
  cases r with
  | ok a h' => exact fun m' H' b n rh q => ⟨m', a, h', n, rs.mono n, rh, q, RSt.down n z⟩
  | exc e h' => exact fun m' H' c d n rh q => z m' H' n rh σ c d (rs.mono n) q
  | err => exact z
/-- a statement that begins by an expression -/
theorem tS.st {α β : Type} {R : Hp → List Addr → α → β → Prop} {ev : En → Hw → Res α} {f : En → α → Hw → Rs} {Q : β → Hp → Prop} (z : tS G Wx (fun ρ h => (ev ρ h).st ρ (f ρ)) D σ H)
    (k : ∀ m1 ρ a b h1 H1, RepS G.K H1 m1 ρ σ → RelH G.K m1 H1 h1 → R H1 m1 a b → RSt G Wx m1 H1 (f ρ a h1) D → Q b H1) : tR G Wx R ev σ H Q := by
  obtain ⟨m, ρ, h, rs, rh, z⟩ := z
  exact ⟨m, ρ, h, rs, rh, (RSt.st rs z).mono fun b H1 ⟨m1, a, h1, n, rs1, rh1, q, z1⟩ => k m1 ρ a b h1 H1 rs1 rh1 q z1⟩
theorem RSt.go {α β : Type} {R : Hp → List Addr → α → β → Prop} {ev : En → Hw → Res α} {f : α → Hw → Rs} {Q : β → Hp → Prop} (rs : RepS G.K H m ρ σ) (rh : RelH G.K m H h) (z : RSt G Wx m H ((ev ρ h).st ρ f) D)
    (k : ∀ m1 a b h1 H1, Nx m H m1 H1 → RepS G.K H1 m1 ρ σ → RelH G.K m1 H1 h1 → R H1 m1 a b → RSt G Wx m1 H1 (f a h1) D → Q b H1) : tR G Wx R ev σ H Q :=
  ⟨m, ρ, h, rs, rh, (RSt.st rs z).mono fun b H1 ⟨m1, a, h1, n, rs1, rh1, q, z1⟩ => k m1 a b h1 H1 n rs1 rh1 q z1⟩
theorem tS.here {ev : En → Hw → Rs} (rs : RepS G.K H m ρ σ) (rh : RelH G.K m H h) (z : RSt G Wx m H (ev ρ h) D) : tS G Wx ev D σ H := ⟨m, ρ, h, rs, rh, z⟩
theorem RSt.no {C : Prop} (z : RSt G Wx m H .err D) : C := (show False from z).elim
end
section
variable {X : Cx} {cl : List Value} {Wx : WX} {pos : Pos} {e : Expr} {ee : En → Hw → Res W} {es es2 : En → Hw → Rs} {st : Stmt} {ss : List Stmt}
theorem ss_nil : PSs X [] (tS (gx X cl) Wx fun ρ h => .ok (.next, ρ) h) := conseqSs pss_nil fun D σ H ⟨m, ρ, h, rs, rh, z⟩ => RSt.here z rh σ rs
theorem ss_cons (h1 : PS X st (tS (gx X cl) Wx es)) (h2 : PSs X ss (tS (gx X cl) Wx es2)) : PSs X (st :: ss) (tS (gx X cl) Wx fun ρ h => match es ρ h with
    | .ok (.next, ρ) h => es2 ρ h
    | .ok (f, ρ) h => .ok (f, ρ) h
    | _ => .err) :=
  conseqSs (pss_cons h1 h2) fun D σ H ⟨m, ρ, h, rs, rh, z⟩ => by
    refine ⟨m, ρ, h, rs, rh, ?_⟩
    try dsimp only at z
    cases e1 : es ρ h with
    | ok a h' =>
      obtain ⟨f, ρ'⟩ := a
      rw [e1] at z
      intro m' H' n rh'
      cases f with
      | next => exact fun σ' rs' => .here rs' rh' (RSt.down n z)
      | brk => exact z m' H' n rh'
      | cont => exact z m' H' n rh'
      | ret w => exact z m' H' n rh'
      | rz e => exact z m' H' n rh'
    | exc x h' => rw [e1] at z; exact z
    | err => rw [e1] at z; exact z
theorem ss_pass : PS X (.Pass pos) (tS (gx X cl) Wx fun ρ h => .ok (.next, ρ) h) := conseqS ps_pass fun D σ H ⟨m, ρ, h, rs, rh, z⟩ => RSt.here z rh σ rs
theorem ss_brk : PS X (.Break pos) (tS (gx X cl) Wx fun ρ h => .ok (.brk, ρ) h) := conseqS ps_break fun D σ H ⟨m, ρ, h, rs, rh, z⟩ => RSt.here z rh σ rs
theorem ss_cont : PS X (.Continue pos) (tS (gx X cl) Wx fun ρ h => .ok (.cont, ρ) h) := conseqS ps_continue fun D σ H ⟨m, ρ, h, rs, rh, z⟩ => RSt.here z rh σ rs
theorem ss_retN : PS X (.Return none pos) (tS (gx X cl) Wx fun ρ h => .ok (.ret .non, ρ) h) := conseqS ps_retN fun D σ H ⟨m, ρ, h, rs, rh, z⟩ => RSt.here z rh .non .non'
theorem ss_doc {x : Str} {j : Nat} {pos' : Pos} : PS X (.Expr (.Constant (.str x) j pos) pos') (tS (gx X cl) Wx fun ρ h => .ok (.next, ρ) h) := conseqS ps_doc fun D σ H ⟨m, ρ, h, rs, rh, z⟩ => RSt.here z rh σ rs
theorem ss_ret (he : PE X e (tE (gx X cl) Wx ee)) : PS X (.Return (some e) pos) (tS (gx X cl) Wx fun ρ h => (ee ρ h).st ρ fun x h => .ok (.ret x, ρ) h) :=
  conseqS (ps_ret he) fun D σ H z => tS.st z fun m1 ρ a b h1 H1 rs rh r z1 => RSt.here z1 rh b r
theorem ss_expr (he : PE X e (tE (gx X cl) Wx ee)) (hs : swapsWith e none pos.line X.env = pure false) : PS X (.Expr e pos) (tS (gx X cl) Wx fun ρ h => (ee ρ h).st ρ fun _ h => .ok (.next, ρ) h) :=
  conseqS (ps_expr he hs) fun D σ H z => tS.st z fun m1 ρ a b h1 H1 rs rh r z1 => RSt.here z1 rh σ rs
theorem ss_asg {tg : Expr} {t : IG} (he : PE X e (tE (gx X cl) Wx ee)) (hg : PG X tg (gG X.K t)) (hs : swapsWithSole [tg] e pos.line X.env = pure false) (hw : swappedStores [tg] e X.env = pure none) (h1 : (assignEach [tg] X.env).map (·.2) = [assign tg X.env]) :
    PS X (.Assign [tg] e pos) (tS (gx X cl) Wx fun ρ h => (ee ρ h).st ρ fun x h => match asg t x ρ with | some ρ' => .ok (.next, ρ') h | none => .err) :=
  conseqS (ps_asg he hg hs hw h1) fun D σ H z => tS.st z fun m1 ρ a b h1 H1 rs rh r z1 => by
    try dsimp only at z1
    split at z1
    · rename_i ρ' e1
      exact gG_ok (G := gx X cl) t rs r e1 fun σ' rs' _ => RSt.here z1 rh σ' rs'
    · exact z1.no
/-- name = [..] on one line -/
theorem ss_setLc {i : Nat} {y : Str} {py : Pos} {elt tg iter : Expr} {ifs : List Expr} {scope : Scope} {own : List (Str × Nat)} {spos : Pos} {ei : En → Hw → Res (List W × Gu)} {et : En → Hw → Res Bool} {ig : IG}
    (hc : X.calm = true) (hN : X.N.Nodup) (hy : X.N[i]? = some y) (hyl : X.env.scope.names.lookup y = some .local)
    (hsw : swapsWith (.ListComp elt [⟨tg, iter, ifs, 0⟩] scope pos) (some (.Name y py)) spos.line X.env = pure true) (hi : PI X tg iter (tI (gx X cl) ig Wx ei)) (ok : BlkOk X.N X.env.scope scope own)
    (hg : ∀ (s : Shared) (H : Hp) (C : Addr) (cs : List (Str × Addr)) (fp : List Addr), PG (X.blk s H scope (compEnvC scope cs C X.env) fp) tg (gG X.K ig))
    (ht : ∀ (s : Shared) (H : Hp) (C : Addr) (cs : List (Str × Addr)) (fp : List Addr), PTs (X.blk s H scope (compEnvC scope cs C X.env) fp) ifs (tT (gx X cl) noX et))
    (he : ∀ (s : Shared) (H : Hp) (C : Addr) (cs : List (Str × Addr)) (fp : List Addr), PE (X.blk s H scope (compEnvC scope cs C X.env) fp) elt (tE (gx X cl) noX ee)) (hs : ∀ x, foldedSetIterable iter X.env x = pure x) (hsl : ∀ i ∈ slots ig, i ∈ own.map (·.2)) :
    PS X (.Assign [.Name y py] (.ListComp elt [⟨tg, iter, ifs, 0⟩] scope pos) spos) (tS (gx X cl) Wx fun ρ h => (((ei ρ h).bind fun q h => (compL ig q.2 et ee (own.map (·.2)) ρ q.1 h []).bind fun ys h => Res.ok (ys, ([] : Gu), false) h).bind fun q h => Res.ok (W.ref h.length) (h ++ [.lst q.1])).st ρ fun x h => match asg (.var i) x ρ with | some ρ' => .ok (.next, ρ') h | none => .err) :=
  conseqS (ps_setLc hc hN hy hyl hsw hi ok hg ht he hs) fun D σ H z => tLc_list hsl (tS.st z fun m1 ρ a b h1 H1 rs rh r z1 => RSt.here z1 rh _ (rs.setS r i))
/-- a comprehension as a value, as items -/
theorem s_lc {elt tg iter : Expr} {ifs : List Expr} {scope : Scope} {own : List (Str × Nat)} {ei : En → Hw → Res (List W × Gu)} {et : En → Hw → Res Bool} {ig : IG}
    (hc : X.calm = true) (hN : X.N.Nodup) (hi : PI X tg iter (tI (gx X cl) ig Wx ei)) (ok : BlkOk X.N X.env.scope scope own)
    (hg : ∀ (s : Shared) (H : Hp) (C : Addr) (cs : List (Str × Addr)) (fp : List Addr), PG (X.blk s H scope (compEnvC scope cs C X.env) fp) tg (gG X.K ig))
    (ht : ∀ (s : Shared) (H : Hp) (C : Addr) (cs : List (Str × Addr)) (fp : List Addr), PTs (X.blk s H scope (compEnvC scope cs C X.env) fp) ifs (tT (gx X cl) noX et))
    (he : ∀ (s : Shared) (H : Hp) (C : Addr) (cs : List (Str × Addr)) (fp : List Addr), PE (X.blk s H scope (compEnvC scope cs C X.env) fp) elt (tE (gx X cl) noX ee)) (hs : ∀ x, foldedSetIterable iter X.env x = pure x) (hsl : ∀ i ∈ slots ig, i ∈ own.map (·.2)) :
    PE X (.ListComp elt [⟨tg, iter, ifs, 0⟩] scope pos) (tL (gx X cl) Wx fun ρ h => (ei ρ h).bind fun q h => (compL ig q.2 et ee (own.map (·.2)) ρ q.1 h []).bind fun ys h => .ok (ys, [], false) h) :=
  conseq (pe_lc hc hN hi ok hg ht he hs) fun σ H Q z => tLc_items hsl z
/-- a new list of items in the air -/
theorem s_mkDisp {els : List Expr} {ees : En → Hw → Res (List W)} (h : PA X els (tEs (gx X cl) Wx ees)) : PE X (.List els pos) (tE (gx X cl) Wx fun ρ h => (ees ρ h).bind fun vs h => if vs.length ≤ lim then .ok (.ref h.length) (h ++ [.lst vs]) else .err) := s_lst h
theorem s_mkLc {elt tg iter : Expr} {ifs : List Expr} {scope : Scope} {own : List (Str × Nat)} {ei : En → Hw → Res (List W × Gu)} {et : En → Hw → Res Bool} {ig : IG}
    (hc : X.calm = true) (hN : X.N.Nodup) (hi : PI X tg iter (tI (gx X cl) ig Wx ei)) (ok : BlkOk X.N X.env.scope scope own)
    (hg : ∀ (s : Shared) (H : Hp) (C : Addr) (cs : List (Str × Addr)) (fp : List Addr), PG (X.blk s H scope (compEnvC scope cs C X.env) fp) tg (gG X.K ig))
    (ht : ∀ (s : Shared) (H : Hp) (C : Addr) (cs : List (Str × Addr)) (fp : List Addr), PTs (X.blk s H scope (compEnvC scope cs C X.env) fp) ifs (tT (gx X cl) noX et))
    (he : ∀ (s : Shared) (H : Hp) (C : Addr) (cs : List (Str × Addr)) (fp : List Addr), PE (X.blk s H scope (compEnvC scope cs C X.env) fp) elt (tE (gx X cl) noX ee)) (hs : ∀ x, foldedSetIterable iter X.env x = pure x) (hsl : ∀ i ∈ slots ig, i ∈ own.map (·.2)) :
    PE X (.ListComp elt [⟨tg, iter, ifs, 0⟩] scope pos) (tE (gx X cl) Wx fun ρ h => ((ei ρ h).bind fun q h => (compL ig q.2 et ee (own.map (·.2)) ρ q.1 h []).bind fun ys h => Res.ok (ys, ([] : Gu), false) h).bind fun q h => .ok (.ref h.length) (h ++ [.lst q.1])) :=
  conseq (pe_lc hc hN hi ok hg ht he hs) fun σ H Q z => tLc_list hsl z
/-- o[i] = e -/
theorem ss_set {o i : Expr} {eo ei : En → Hw → Res W} {p2 : Pos} (he : PE X e (tE (gx X cl) Wx ee)) (ho : PE X o (tE (gx X cl) Wx eo)) (hi : PE X i (tE (gx X cl) Wx ei))
    (ha : ∀ v, assign (.Subscript o i p2) X.env v = (do
      let ov ← holding [v] (eval o X.env)
      let iv ← holding [v, ov] (eval i X.env)
      standAt p2
      holding [v, ov, iv] (setItem ov iv v)
      release [v, ov, iv] [])) (hs : swapsWithSole [.Subscript o i p2] e pos.line X.env = pure false) (hw : swappedStores [.Subscript o i p2] e X.env = pure none) (h1 : (assignEach [.Subscript o i p2] X.env).map (·.2) = [assign (.Subscript o i p2) X.env]) :
    PS X (.Assign [.Subscript o i p2] e pos) (tS (gx X cl) Wx fun ρ h => (ee ρ h).st ρ fun v h => (eo ρ h).st ρ fun x h => (ei ρ h).st ρ fun y h => match Ev.setIt x y v h with
      | some h' => .ok (.next, ρ) h'
      | none => .err) :=
  conseqS (ps_asg he (pg_sub ho hi set_list ha) hs hw h1) fun D σ H z => tS.st z fun m1 ρ a b h1 H1 rs rh r z1 => RSt.go rs rh z1 fun m2 a2 b2 h2 H2 n2 rs2 rh2 r2 z2 => RSt.go rs2 rh2 z2 fun m3 a3 b3 h3 H3 n3 rs3 rh3 r3 z3 => by
    try dsimp only at z3
    split at z3
    · rename_i h' e1
      exact setS rh3 (r2.mono n3) r3 ((r.mono n2).mono n3) e1 fun m' H' n' rh' => z3 m' H' n' rh' σ (rs3.mono n')
    · exact z3.no
theorem ss_augAdd {i : Nat} {x : Str} {p2 : Pos} (hN : X.N.Nodup) (hi : X.N[i]? = some x) (hx : Loc X.env.scope x) (he : PE X e (tE (gx X cl) Wx ee)) (hf : X.fn x = true ∨ X.env.scope.names.lookup x = some .local) :
    PS X (.AugAssign (.Name x p2) .Add e pos) (tS (gx X cl) Wx fun ρ h => match ρ[i]? with
      | some (some x) => (ee ρ h).st ρ fun y h => match Bop.add, x, y with
        | .add, .int a, .int b => .ok (.next, ρ.set i (some (.int (a + b)))) h
        | .sub, .int a, .int b => .ok (.next, ρ.set i (some (.int (a - b)))) h
        | _, _, _ => .err
      | _ => .err) :=
  conseqS (ps_aug hN hi hx he ip_add hf) fun D σ H ⟨m, ρ, h, rs, rh, z⟩ => by
    try dsimp only at z
    split at z
    · rename_i w e1
      obtain ⟨v, e2, rv⟩ := rs.get e1
      refine ⟨v, e2, RSt.go rs rh z fun m1 a b h1 H1 n rs1 rh1 r z1 => ?_⟩
      cases w with
      | int i1 =>
        cases a with
        | int i2 =>
          rw [rv.int_of, r.int_of]
          exact ⟨i1, i2, rfl, rfl, RSt.here z1 rh1 _ (rs1.setS .int' i)⟩
        | _ => exact z1.no
      | _ => cases a <;> exact z1.no
    · exact z.no
theorem ss_augSub {i : Nat} {x : Str} {p2 : Pos} (hN : X.N.Nodup) (hi : X.N[i]? = some x) (hx : Loc X.env.scope x) (he : PE X e (tE (gx X cl) Wx ee)) (hf : X.fn x = true ∨ X.env.scope.names.lookup x = some .local) :
    PS X (.AugAssign (.Name x p2) .Sub e pos) (tS (gx X cl) Wx fun ρ h => match ρ[i]? with
      | some (some x) => (ee ρ h).st ρ fun y h => match Bop.sub, x, y with
        | .add, .int a, .int b => .ok (.next, ρ.set i (some (.int (a + b)))) h
        | .sub, .int a, .int b => .ok (.next, ρ.set i (some (.int (a - b)))) h
        | _, _, _ => .err
      | _ => .err) :=
  conseqS (ps_aug hN hi hx he ip_sub hf) fun D σ H ⟨m, ρ, h, rs, rh, z⟩ => by
    try dsimp only at z
    split at z
    · rename_i w e1
      obtain ⟨v, e2, rv⟩ := rs.get e1
      refine ⟨v, e2, RSt.go rs rh z fun m1 a b h1 H1 n rs1 rh1 r z1 => ?_⟩
      cases w with
      | int i1 =>
        cases a with
        | int i2 =>
          rw [rv.int_of, r.int_of]
          exact ⟨i1, i2, rfl, rfl, RSt.here z1 rh1 _ (rs1.setS .int' i)⟩
        | _ => exact z1.no
      | _ => cases a <;> exact z1.no
    · exact z.no
/-- an item of a list, by values -/
def rGetL (K : PySem.W.Frag) : V → V → Hp → VK → Prop := fun x y H Q => ∃ p xs i v, x = .ref p ∧ y = .int i ∧ SqL K H p xs ∧ 0 ≤ i ∧ xs[i.toNat]? = some v ∧ Q v H
theorem get_listL {X : Cx} : PGet X (rGetL X.K) := by
  intro pins s σ H x y v u Q I rx ry h
  obtain ⟨p, xs, i, z, rfl, rfl, hq, h0, he, q⟩ := h
  cases rx
  obtain ⟨t, rfl⟩ := ry
  obtain ⟨its, r, pl, hz⟩ := I.list hq
  obtain ⟨w, ew, rw'⟩ := r.get he
  have hl := r.length
  have hn := line63
  obtain ⟨hi, _⟩ := List.getElem?_eq_some_iff.mp he
  exact wpAny_getItem_list pl.isList h0 (by omega) (by simpa using ew) ⟨z, H, I, rw', q⟩
theorem getL_of {G : GX} {m : List Addr} {H : Hp} {h : Hw} {a b : W} {x y : V} {r : Res W} (e : itemL a b h = r) (rh : RelH G.K m H h) (ra : Rep G.K H m a x) (rb : Rep G.K H m b y) :
    r = .err ∨ ∃ w, r = .ok w h ∧ ∃ p xs i v, x = .ref p ∧ y = .int i ∧ SqL G.K H p xs ∧ 0 ≤ i ∧ xs[i.toNat]? = some v ∧ Rep G.K H m w v := by
  subst e
  cases a with
  | ref p =>
    cases b with
    | int k =>
      obtain ⟨q, e1, rfl⟩ := ra.ref_of
      rw [rb.int_of]
      show (match h[p]? with
        | some (.lst xs) => if 0 ≤ k then (match xs[k.toNat]? with | some v => Res.ok v h | none => .err) else .err
        | _ => .err) = .err ∨ ∃ w, (match h[p]? with
        | some (.lst xs) => if 0 ≤ k then (match xs[k.toNat]? with | some v => Res.ok v h | none => .err) else .err
        | _ => .err) = .ok w h ∧ _
      split
      · rename_i xs hx
        split
        · rename_i h0
          split
          · rename_i v hv
            obtain ⟨vs, f, r⟩ := rh.lst hx e1
            obtain ⟨u, hu, ru⟩ := r.get hv
            exact .inr ⟨v, rfl, q, vs, k, u, rfl, rfl, .of f, h0, hu, ru⟩
          · exact .inl rfl
        · exact .inl rfl
      · exact .inl rfl
    | _ => exact .inl rfl
  | _ => exact .inl rfl
theorem ss_augSub1 {p : Bop} {op : Operator} {g : Int → Int → Int} {o i : Expr} {eo ei : En → Hw → Res W} {p2 : Pos} (hp : PIp X op (ipI g)) (ho : PE X o (tE (gx X cl) Wx eo)) (hi : PE X i (tE (gx X cl) Wx ei)) (he : PE X e (tE (gx X cl) Wx ee)) (hg : ∀ w v z, augO p w v = some z → ∃ a b, w = .int a ∧ v = .int b ∧ z = .int (g a b))
    (ha : ∀ ov iv new, augStore i ov iv new = (do holding [new, ov, iv] (setItem ov iv new); release [new, ov, iv] []; pure .next)) :
    PS X (.AugAssign (.Subscript o i p2) op e pos) (tS (gx X cl) Wx fun ρ h => (eo ρ h).st ρ fun x h => (ei ρ h).st ρ fun y h => (itemL x y h).st ρ fun w h => (ee ρ h).st ρ fun v h => match augO p w v with
      | some z => (match Ev.setIt x y z h with
        | some h' => .ok (.next, ρ) h'
        | none => .err)
      | none => .err) :=
  conseqS (ps_augS ho hi get_listL he hp set_list ha) fun D σ H z => tS.st z fun m1 ρ a b h1 H1 rs rh r z1 => RSt.go rs rh z1 fun m2 a2 b2 h2 H2 n2 rs2 rh2 r2 z2 => by
    generalize hi : itemL _ _ _ = q at z2
    rcases getL_of hi rh2 (r.mono n2) r2 with rfl | ⟨w, rfl, p, xs, i, v, rfl, rfl, s1, h0, hv, rv⟩
    · exact z2.no
    · refine ⟨p, xs, i, v, rfl, rfl, s1, h0, hv, RSt.go rs2 rh2 z2 fun m3 a3 b3 h3 H3 n3 rs3 rh3 r3 z3 => ?_⟩
      try dsimp only at z3
      split at z3
      · rename_i zw hz
        obtain ⟨c1, c2, rfl, rfl, rfl⟩ := hg _ _ _ hz
        rw [rv.int_of, r3.int_of]
        refine ⟨c1, c2, rfl, rfl, ?_⟩
        split at z3
        · rename_i h' e1
          exact setS rh3 ((r.mono n2).mono n3) (r2.mono n3) .int' e1 fun m' H' n' rh' => z3 m' H' n' rh' σ (rs3.mono n')
        · exact z3.no
      · exact z3.no
theorem augO_add : ∀ w v z, augO .add w v = some z → ∃ a b, w = .int a ∧ v = .int b ∧ z = .int (a + b) := fun w v z h => by
  cases w <;> cases v <;> first | (cases h; done) | (unfold augO at h; cases h; exact ⟨_, _, rfl, rfl, rfl⟩)
theorem augO_sub : ∀ w v z, augO .sub w v = some z → ∃ a b, w = .int a ∧ v = .int b ∧ z = .int (a - b) := fun w v z h => by
  cases w <;> cases v <;> first | (cases h; done) | (unfold augO at h; cases h; exact ⟨_, _, rfl, rfl, rfl⟩)
variable {c : Expr} {ec : En → Hw → Res Bool} {bs bs2 : List Stmt}
theorem ss_if (hc : PT X c (tT (gx X cl) Wx ec)) (ha : PSs X bs (tS (gx X cl) Wx es)) (hb : PSs X bs2 (tS (gx X cl) Wx es2)) :
    PS X (.If c bs bs2 pos) (tS (gx X cl) Wx fun ρ h => (ec ρ h).st ρ fun k h => if k = true then es ρ h else es2 ρ h) :=
  conseqS (ps_if hc ha hb) fun D σ H z => tS.st z fun m1 ρ a b h1 H1 rs rh r z1 => by
    rw [show b = a from r]
    cases a with
    | true => exact iteT (.here rs rh z1)
    | false => exact iteF (.here rs rh z1)
theorem ss_for {tg iter : Expr} {t : IG} {ei : En → Hw → Res (List W × Gu)} (hp : PassesOwn (model X.prog X.w) X.A X.env X.xe) (hc : X.calm = true) (hi : PI X tg iter (tI (gx X cl) t Wx ei)) (hg : PG X tg (gG X.K t)) (hb : PSs X bs (tS (gx X cl) Wx es)) (hs : ∀ x, foldedSetIterable iter X.env x = pure x) :
    PS X (.For tg iter bs [] pos) (tS (gx X cl) Wx fun ρ h => (ei ρ h).st ρ fun q h => forL t q.2 es q.1 ρ h) :=
  conseqS (ps_for hp hc hi hg hb hs) fun D σ H z => tS.st z fun m0 ρ0 q J h0 H0 rs0 rh0 it z1 => by
    have ne : forL t q.2 es q.1 ρ0 h0 ≠ .err := fun e => by rw [e] at z1; exact z1.no
    generalize hfull : forL t q.2 es q.1 ρ0 h0 = full at z1 ne
    refine ⟨fun i mm σ H => ∃ m1 ρ h1, Nx m0 H0 m1 H ∧ RepS (gx X cl).K H m1 ρ σ ∧ RelH (gx X cl).K m1 H h1 ∧ mm = q.1.length - i ∧ i ≤ q.1.length ∧ forL t q.2 es (q.1.drop i) ρ h1 = full,
      ⟨q.1.length, m0, ρ0, h0, .refl, rs0, rh0, by simp, Nat.zero_le _, by simpa using hfull⟩, ?_⟩
    rintro i mm σ1 H1 ⟨m1, ρ, h1, n1, rs1, rh1, rfl, hi, hf⟩
    obtain hlt | heq := Nat.lt_or_eq_of_le hi
    · have hd : q.1.drop i = q.1[i] :: q.1.drop (i + 1) := List.drop_eq_getElem_cons hlt
      rw [hd] at hf
      unfold forL at hf
      obtain ⟨gu, hf⟩ := guard_ok hf ne
      obtain ⟨go, yl⟩ := (it i m1 H1 h1 n1 rh1 gu).1 q.1[i] (List.getElem?_eq_getElem hlt)
      refine .inr ⟨go, fun σ' H' => ∃ m1 ρ h1, Nx m0 H0 m1 H' ∧ RepS (gx X cl).K H' m1 ρ σ' ∧ RelH (gx X cl).K m1 H' h1 ∧ forL t q.2 es (q.1.drop (i + 1)) ρ h1 = full,
        fun σ' H' ⟨m2, ρ2, h2, a1, a2, a3, a4⟩ => ⟨q.1.length - (i + 1), by omega, m2, ρ2, h2, a1, a2, a3, rfl, hlt, a4⟩, fun x H2 y => ?_⟩
      obtain ⟨n2, rh2, rx⟩ := yl x H2 y
      split at hf
      · exact absurd hf.symm ne
      · rename_i ρ' ea
        refine gG_okG (G := gx X cl) (m := m1) t (rs1.mono n2) rx ea fun σ2 rs2 _ => .here rs2 rh2 ?_
        have n02 := n1.trans n2
        have fin : ∀ {f : Fl} {ρ3 : En} {h3 : Hw}, (Res.ok (f, ρ3) h3 : Rs) = full → ∀ m' H', Nx m1 H2 m' H' → RelH (gx X cl).K m' H' h3 → FlOk (gx X cl) Wx f ρ3 m' H' D := fun e m' H' n rh' => by
          rw [← e] at z1
          exact z1 m' H' (n02.trans n) rh'
        split at hf
        · rename_i ρ3 h3 e3
          rw [e3]
          exact fun m' H' n rh' σ' rs' => ⟨m', ρ3, h3, n02.trans n, rs', rh', hf⟩
        · rename_i ρ3 h3 e3
          rw [e3]
          exact fun m' H' n rh' σ' rs' => ⟨m', ρ3, h3, n02.trans n, rs', rh', hf⟩
        · rename_i ρ3 h3 e3
          rw [e3]
          exact fun m' H' n rh' σ' rs' => fin hf m' H' n rh' σ' rs'
        · rename_i w ρ3 h3 e3
          rw [e3]
          exact fun m' H' n rh' v r => fin hf m' H' n rh' v r
        · rename_i w ρ3 h3 e3
          rw [e3]
          exact fun m' H' n rh' σ' c d rs' rx' => fin hf m' H' n rh' σ' c d rs' rx'
        · exact absurd hf.symm ne
    · rw [heq, List.drop_length] at hf
      unfold forL at hf
      obtain ⟨gu, hf⟩ := guard_ok hf ne
      subst hf
      exact .inl ⟨(it i m1 H1 h1 n1 rh1 gu).2 (Nat.le_of_eq heq.symm), z1 m1 H1 n1 rh1 σ1 rs1⟩
theorem whl_some {c : En → Hw → Res Bool} {body : En → Hw → Rs} {ρ : En} {h : Hw} (hn : whl c body ρ h ≠ .err) : ∃ n, whlN c body n ρ h = some (whl c body ρ h) := by
  unfold whl at hn ⊢
  split
  · rename_i x
    exact ⟨x.choose, x.choose_spec.choose_spec⟩
  · rename_i x
    rw [dif_neg x] at hn
    exact absurd rfl hn
theorem ss_while (hp : PassesOwn (model X.prog X.w) X.A X.env X.xe) (hc : PT X c (tT (gx X cl) Wx ec)) (hb : PSs X bs (tS (gx X cl) Wx es)) :
    PS X (.While c bs [] pos) (tS (gx X cl) Wx fun ρ h => whl ec es ρ h) :=
  conseqS (ps_while hp hc hb) fun D σ H ⟨m0, ρ0, h0, rs0, rh0, z⟩ => by
    try dsimp only at z
    have ne : whl ec es ρ0 h0 ≠ .err := fun e => by rw [e] at z; exact z.no
    obtain ⟨n, hn⟩ := whl_some ne
    generalize whl ec es ρ0 h0 = full at hn z ne
    have fin : ∀ {m1 : List Addr} {H1 : Hp} {f : Fl} {ρ3 : En} {h3 : Hw}, Nx m0 H m1 H1 → (Res.ok (f, ρ3) h3 : Rs) = full → ∀ m' H', Nx m1 H1 m' H' → RelH (gx X cl).K m' H' h3 → FlOk (gx X cl) Wx f ρ3 m' H' D := fun n1 e m' H' n rh' => by
      rw [← e] at z
      exact z m' H' (n1.trans n) rh'
    refine ⟨fun mm σ1 H1 => ∃ m1 ρ h1, Nx m0 H m1 H1 ∧ RepS (gx X cl).K H1 m1 ρ σ1 ∧ RelH (gx X cl).K m1 H1 h1 ∧ whlN ec es mm ρ h1 = some full, ⟨n, m0, ρ0, h0, .refl, rs0, rh0, hn⟩, ?_⟩
    rintro mm σ1 H1 ⟨m1, ρ, h1, n1, rs1, rh1, hw⟩
    cases mm with
    | zero => cases hw
    | succ mm =>
      unfold whlN at hw
      refine ⟨m1, ρ, h1, rs1, rh1, ?_⟩
      cases e1 : ec ρ h1 with
      | ok k h2 =>
        rw [e1] at hw
        intro m2 H2 b n2 rh2 eb
        rw [show b = k from eb]
        have n02 := n1.trans n2
        cases k with
        | false => exact iteF (fin n1 (Option.some.inj hw) m2 H2 n2 rh2 σ1 (rs1.mono n2))
        | true =>
          refine iteT ⟨fun σ' H' => ∃ m1 ρ h1, Nx m0 H m1 H' ∧ RepS (gx X cl).K H' m1 ρ σ' ∧ RelH (gx X cl).K m1 H' h1 ∧ whlN ec es mm ρ h1 = some full, fun σ' H' ⟨m3, ρ3, h3, a1, a2, a3, a4⟩ => ⟨mm, Nat.lt_succ_self _, m3, ρ3, h3, a1, a2, a3, a4⟩, .here (rs1.mono n2) rh2 ?_⟩
          dsimp only at hw
          split at hw
          · rename_i ρ3 h3 e3
            rw [e3]
            exact fun m' H' n rh' σ' rs' => ⟨m', ρ3, h3, n02.trans n, rs', rh', hw⟩
          · rename_i ρ3 h3 e3
            rw [e3]
            exact fun m' H' n rh' σ' rs' => ⟨m', ρ3, h3, n02.trans n, rs', rh', hw⟩
          · rename_i ρ3 h3 e3
            rw [e3]
            exact fun m' H' n rh' σ' rs' => fin n02 (Option.some.inj hw) m' H' n rh' σ' rs'
          · rename_i w ρ3 h3 e3
            rw [e3]
            exact fun m' H' n rh' v r => fin n02 (Option.some.inj hw) m' H' n rh' v r
          · rename_i w ρ3 h3 e3
            rw [e3]
            exact fun m' H' n rh' σ' c d rs' rx' => fin n02 (Option.some.inj hw) m' H' n rh' σ' c d rs' rx'
          · exact absurd (Option.some.inj hw).symm ne
      | exc x h2 =>
        rw [e1] at hw
        exact fun m2 H2 c d n2 rh2 rx => fin n1 (Option.some.inj hw) m2 H2 n2 rh2 σ1 c d (rs1.mono n2) rx
      | err =>
        rw [e1] at hw
        exact absurd (Option.some.inj hw).symm ne
/-- raise C('..') -/
theorem ss_rz {C : Value} {i : Nat} (hc : X.calm = true) (tk : Takes X Wx) (he : PMk X e (fun _ H Q => Q C none H)) (hcl : cl[i]? = some C) : PS X (.Raise (some e) none pos) (tS (gx X cl) Wx fun ρ h => .ok (.rz ⟨i, []⟩, ρ) h) :=
  conseqS (ps_raise hc tk he) fun D σ H ⟨m, ρ, h, rs, rh, z⟩ => RSt.here z rh σ C none rs ⟨hcl, rfl, rfl⟩
/-- try: body, except C: suite -/
theorem ss_try {body suite : List Stmt} {b₀ : Stmt} {x : Str} {np pos' : Pos} {C : Value} {i : Nat} (hs : X.stack = X.env :: X.outer) (hf : X.env.frame = some X.env.locals) (hc : Names X x C) (tk : Takes X Wx) (hcl : cl[i]? = some C) (hx : PySem.W.exmOne X.K C C = some true)
    (hb : ∀ (W : WX) (pn : List (Addr × Obj)) (xe : Value → Shared → Prop), Takes (X.tr pn xe) W → PassesOwn (model X.prog X.w) X.A X.env xe → PSs (X.tr pn xe) body (tS (gx X cl) W es))
    (hsu : ∀ (a : Addr) (oe : Obj) (pn : List (Addr × Obj)), PSs (X.suite a ((a, oe) :: pn)) (b₀ :: suite) (tS (gx X cl) Wx es2)) :
    PS X (.Try body [.ExceptHandler (some (.Name x np)) none (b₀ :: suite) pos'] [] [] pos) (tS (gx X cl) Wx fun ρ h => match es ρ h with
      | .ok (.rz e, ρ') h' => if e.cls = i ∧ e.args = [] then es2 ρ' h' else .err
      | .ok (f, ρ') h' => .ok (f, ρ') h'
      | _ => .err) :=
  conseqS (ps_try_only (ts := fun _ _ _ => tS (gx X cl) Wx es2) hs hf hc tk (fun W pn xe t p => hb W pn xe t p) (fun a oe _ _ pn _ _ => hsu a oe pn)) fun D σ H ⟨m, ρ, h, rs, rh, z⟩ => by
    refine ⟨m, ρ, h, rs, rh, ?_⟩
    try dsimp only at z
    cases e1 : es ρ h with
    | ok q h' =>
      obtain ⟨f, ρ'⟩ := q
      rw [e1] at z
      intro m' H' n rh'
      cases f with
      | next => exact z m' H' n rh'
      | brk => exact z m' H' n rh'
      | cont => exact z m' H' n rh'
      | ret w => exact z m' H' n rh'
      | rz e =>
        dsimp only at z
        split at z
        · rename_i hq
          intro σ' c d rs' rx
          obtain ⟨r1, r2, r3⟩ := rx
          have ec : c = C := by
            rw [hq.1, show (gx X cl).cls = cl from rfl, hcl] at r1
            exact (Option.some.inj r1).symm
          subst ec
          exact ⟨true, hx, fun _ a _ => ⟨m', ρ', h', rs', rh', RSt.down n z⟩, fun q => by cases q⟩
        · exact z.no
    | exc x h' => rw [e1] at z; exact z
    | err => rw [e1] at z; exact z
end
end Ev

set_option Elab.async false
set_option linter.all false
set_option maxRecDepth 100000
/-! EvG: max(xs, default=d) over whole numbers. -/
namespace Ev
open PySem L2 PyProof.Rows
section
variable {prog : Program} {w : World} {A : Around} {R : Result → Shared → Prop} {I S : Addr} {fp wr : List Addr} {n : Nat} {P : Nat → Value → Prop} {St : Nat → Heap → Prop} {kw : List (Str × Value)}
abbrev bestO (vs : Array Value) (c : Nat) : Obj := { cls := .type "list", dict := none, data := .seq vs c, slots := #[] }
theorem mxName : (toString "max" ++ toString ".loop" : String) = "max.loop" := by decide
/-- behind the first element -/
theorem mxTail (W : Walks prog w A.in1 I fp wr n P St) (bt : Nat → Nat → Bool) (hc : CmpOf prog w A.in1 .Gt P bt) (hf : S ∉ fp) (k : Nat) :
    ∀ {j c : Nat} {s : Shared} {b : Value}, j + 1 + k = n → St (j + 1) s.heap → P (argBest bt j) b → s.heap.get? S = some (bestO #[b, b] c) →
      (∀ v h' tk, P (argBest bt (n - 1)) v → (∀ a o, a ∉ wr → a ≠ S → s.heap.get? a = some o → h'.get? a = some o) → R (.ok (.ret v)) { s with heap := h', toks := tk }) →
      codeAny (model prog w) A (.builtin "max.loop" ⟨[.ref I, .none, .ref S], kw⟩) R s := by
  have hw : S ∉ wr := fun z => hf (W.sub _ z)
  induction k with
  | zero =>
    intro j c s b hn st pb hS hR
    refine codeAny_builtin F.entry_max_loop (by
      rw [Around.under_plainId F.plain_max_loop _]
      refine wpAny_bind (m := seqItems? (.ref S)) (wpAny_seqItems hS rfl (wpAny_bind (m := tryCatch (pyNext (.ref I)) _) (wpAny_tryCatch (W.done s _ _ (hn ▸ st) fun h' tk keep => ?_))))
      have hS' := keep S _ hw hS
      refine wpAny_bind (m := updateSeq S (fun _ => #[])) (wpAny_updateSeq hS' rfl (wpAny_bind (m := letGo _ _) (wpAny_letGo (wpAny_pure (hR b _ tk (by rw [← hn]; exact pb) fun a o ha hne e => ?_)))))
      exact (Heap.get?_update_other _ _ (Ne.symm hne)).trans (keep a o ha e))
  | succ k ih =>
    intro j c s b hn st pb hS hR
    refine codeAny_builtin F.entry_max_loop (by
      rw [Around.under_plainId F.plain_max_loop _]
      refine wpAny_bind (m := seqItems? (.ref S)) (wpAny_seqItems hS rfl (wpAny_bind (m := tryCatch (pyNext (.ref I)) _) (wpAny_tryCatch (W.item (j + 1) s _ _ (by omega) st fun v h' tk pv st' keep => ?_))))
      have hS' := keep S _ hw hS
      refine wpAny_bind (m := tryCatch (holding [v, v] (richCompare .Gt v b >>= _)) _) (wpAny_tryCatch (wpAny_holding (wpAny_bind (hc (j + 1) (argBest bt j) v b _ _ _ pv pb (wpAny_bind (wpAny_holding (wpAny_truthy_bool (wpAny_bind (wpAny_letGo (wpAny_pure ?_))))))))))
      cases hb : bt (j + 1) (argBest bt j) with
      | true =>
        refine wpAny_bind (m := updateSeq S (fun _ => #[v, v])) (wpAny_updateSeq hS' rfl (wpAny_bind (m := letGo _ _) (wpAny_letGo ?_)))
        rw [mxName]
        refine wpAny_pure ⟨plainId_quiet F.plain_max_loop _, ih (j := j + 1) (by omega) (W.frame _ _ _ st' fun a ha o e => (Heap.get?_update_other _ _ (fun z : S = a => hf (by rw [z]; exact ha))).trans e) (by simp only [argBest, hb, if_true]; exact pv) (Heap.get?_update_self _ hS' rfl) fun v' h2 t2 pv' k2 => ?_⟩
        exact hR v' h2 t2 pv' fun a o ha hne e => k2 a o ha hne ((Heap.get?_update_other _ _ (Ne.symm hne)).trans (keep a o ha e))
      | false =>
        refine wpAny_bind (m := letGo _ _) (wpAny_letGo ?_)
        rw [mxName]
        refine wpAny_pure ⟨plainId_quiet F.plain_max_loop _, ih (j := j + 1) (by omega) st' (by simp only [argBest, hb, Bool.false_eq_true, if_false]; exact pb) hS' fun v' h2 t2 pv' k2 => ?_⟩
        exact hR v' h2 t2 pv' fun a o ha hne e => k2 a o ha hne (keep a o ha e))
/-- from the beginning -/
theorem mxHead (W : Walks prog w A.in1 I fp wr n P St) (bt : Nat → Nat → Bool) (hc : CmpOf prog w A.in1 .Gt P bt) (hf : S ∉ fp) {c : Nat} {s : Shared} {nm : Str} {d : Value} (st : St 0 s.heap) (hS : s.heap.get? S = some (bestO #[] c))
    (h0 : n = 0 → ∀ h' tk, (∀ a o, a ∉ wr → a ≠ S → s.heap.get? a = some o → h'.get? a = some o) → R (.ok (.ret d)) { s with heap := h', toks := tk })
    (h1 : 0 < n → ∀ v h' tk, P (argBest bt (n - 1)) v → (∀ a o, a ∉ wr → a ≠ S → s.heap.get? a = some o → h'.get? a = some o) → R (.ok (.ret v)) { s with heap := h', toks := tk }) :
    codeAny (model prog w) A (.builtin "max.loop" ⟨[.ref I, .none, .ref S], [(nm, d)]⟩) R s := by
  have hw : S ∉ wr := fun z => hf (W.sub _ z)
  rcases Nat.eq_zero_or_pos n with z | z
  · refine codeAny_builtin F.entry_max_loop (by
      rw [Around.under_plainId F.plain_max_loop _]
      refine wpAny_bind (m := seqItems? (.ref S)) (wpAny_seqItems hS rfl (wpAny_bind (m := tryCatch (pyNext (.ref I)) _) (wpAny_tryCatch (W.done s _ _ (z ▸ st) fun h' tk keep => ?_))))
      refine wpAny_bind (m := rule _) (wpAny_rule (wpAny_pure (h0 z h' tk fun a o ha _ e => keep a o ha e))))
  · refine codeAny_builtin F.entry_max_loop (by
      rw [Around.under_plainId F.plain_max_loop _]
      refine wpAny_bind (m := seqItems? (.ref S)) (wpAny_seqItems hS rfl (wpAny_bind (m := tryCatch (pyNext (.ref I)) _) (wpAny_tryCatch (W.item 0 s _ _ z st fun v h' tk pv st' keep => ?_))))
      have hS' := keep S _ hw hS
      refine wpAny_bind (m := updateSeq S (fun _ => #[v, v])) (wpAny_updateSeq hS' rfl ?_)
      rw [mxName]
      refine wpAny_pure ⟨plainId_quiet F.plain_max_loop _, mxTail W bt hc hf (n - 1) (j := 0) (by omega) (W.frame _ _ _ st' fun a ha o e => (Heap.get?_update_other _ _ (fun z : S = a => hf (by rw [z]; exact ha))).trans e) pv (Heap.get?_update_self _ hS' rfl) fun v' h2 t2 pv' k2 => ?_⟩
      exact h1 z v' h2 t2 pv' fun a o ha hne e => k2 a o ha hne ((Heap.get?_update_other _ _ (Ne.symm hne)).trans (keep a o ha e)))
end
section
variable {prog : Program} {w : World} {A : Around} {E : Value → Shared → Prop} {s : Shared} {l : Addr} {its : List Value} {ns : List Int} {Q : Value → Shared → Prop} {d : Value}
theorem mxArgs (a v : Value) : argsOk "max" ⟨[a], [(Str.ofString "default", v)]⟩ := by unfold argsOk; kernel_rfl
theorem mxBind (v : Value) : Builtin.Builtins.bindParams "max" ["key", "default"] 0 ⟨[], [(Str.ofString "default", v)]⟩ = pure [none, some v] := by first | rfl | kernel_rfl
theorem maxD_raw (hh : A.handled = none) (hl : s.heap.IsList l its.toArray) (hi : IntsAre its ns)
    (h0 : ns = [] → ∀ h' tk, (∀ b o, s.heap.get? b = some o → h'.get? b = some o) → Q d { s with heap := h', toks := tk })
    (h1 : ∀ h' tk M t', (∀ b o, s.heap.get? b = some o → h'.get? b = some o) → M ∈ ns → (∀ a, a ∈ ns → a ≤ M) → Q (.int M t') { s with heap := h', toks := tk }) :
    wpAny (model prog w) A (call (.builtin "max") [.ref l] [(Str.ofString "default", d)]) Q E s := by
  obtain ⟨xs, e⟩ := hi.allInts.items
  have hn : numsOf (intItems xs).toList = ns := by rw [← e]; exact hi.numsOf
  rw [nums_intItems] at hn
  subst hn
  rw [e] at hl
  have ha := mxArgs (.ref l) d
  have body : wpAny (model prog w) A.in1 (Builtin.«max» ⟨[.ref l], [(Str.ofString "default", d)]⟩) (fun fin s' => match fin with
      | .done f => (match (Except.ok f : Result) with | .ok (.ret v) => Q v s' | .ok _ => False | .error e => E e s')
      | .again c' => c'.quiet = true ∧ codeAny (model prog w) A c' (fun r s' => match r with | .ok (.ret v) => Q v s' | .ok _ => False | .error e => E e s') s') E s := by
    refine wpAny_bind (m := Builtin.Builtins.bindParams "max" ["key", "default"] 0 ⟨[], [(Str.ofString "default", d)]⟩) (wpAny_of_eq (mxBind d) (wpAny_bind (wpAny_pure (wpAny_bind (m := pyIter (.ref l)) (iter_intList hl fun s2 e2 st hfp hne => ?_)))))
    subst e2
    refine wpAny_bind (wpAny_newObj_type ?_)
    rw [mxName]
    have W := Walks.list (prog := prog) (w := w) (A := A.in1) hh s.heap.objs.size l hne (intItems xs)
    refine wpAny_pure ⟨plainId_quiet F.plain_max_loop _, mxHead W _ (CmpOf.ints_gt (numAt xs) fun _ _ => intItems_at) (fun hm => Nat.lt_irrefl _ (hfp _ hm)) (W.frame _ _ _ st fun b _ o e => Heap.get?_push_of_some _ e) (Heap.get?_push_size _ rfl) (fun z h' tk keep => ?_) fun z v h' tk pv keep => ?_⟩
    · refine h0 ?_ h' tk (old_kept fun b o hb e => keep b o hb (Nat.ne_of_lt (Heap.lt_size e)) (Heap.get?_push_of_some _ e))
      have : xs.size = 0 := by simpa [intItems] using z
      have : xs = #[] := Array.eq_empty_of_size_eq_zero this
      rw [this]; rfl
    · have hz : (intItems xs).size = xs.size := by simp [intItems]
      rw [hz] at pv z
      obtain ⟨t, rfl⟩ := intItems_at pv
      obtain ⟨m1, m2⟩ := argBest_gt (numAt xs) (xs.size - 1)
      refine h1 h' tk _ t (old_kept fun b o hb e => keep b o hb (Nat.ne_of_lt (Heap.lt_size e)) (Heap.get?_push_of_some _ e)) ?_ fun a q => ?_
      · rw [numAt_eq]; exact PySem.getD_mem (by rw [List.length_map, Array.length_toList]; omega)
      · obtain ⟨j, hj, rfl⟩ := mem_getD q
        rw [List.length_map, Array.length_toList] at hj
        rw [← numAt_eq]; exact m2 j (by omega)
  refine wpAny_call (codeAny_call_builtin F.plain_max F.entry_max ?_)
  simp only [checkBuiltinCall, F.kind_max]
  generalize hsig : Manifest.signature? "max" = sg
  cases sg with
  | none => exact wpAny_pure body
  | some sig =>
    simp only [argsOk, hsig] at ha
    exact wpAny_of_eq (show Bind.checkArgs "max" sig ⟨[.ref l], [(Str.ofString "default", d)]⟩ = pure () from ha) body
end
section
variable {X : Cx}
/-- the greatest of some whole numbers, d of none -/
def rMaxDf (K : PySem.W.Frag) : List V → List V → Hp → VK → Prop := fun vs zs H Q => ∃ (a : Addr) (ns : List Int) (d : V), vs = [V.ref a] ∧ zs = [d] ∧ SqL K H a (ns.map V.int) ∧ (ns = [] → Q d H) ∧ ∀ m, m ∈ ns → (∀ y, y ∈ ns → y ≤ m) → Q (.int m) H
theorem cr_maxDf (hc : X.calm = true) : CallRK X (.builtin "max") [Str.ofString "default"] (rMaxDf X.K) := by
  intro pins s σ H vs zs us ws Q I r rz h
  obtain ⟨a, ns, d, rfl, rfl, hs, q0, q1⟩ := h
  obtain rfl := Vals.ref1 r
  obtain ⟨w1, rfl, e1⟩ := vals1 rz
  obtain ⟨its, rv, hl, _⟩ := I.list hs
  exact maxD_raw (I.ok.hd hc) hl.isList rv.ints (fun z h' tk hk => ⟨d, H, I.kept hk, e1, q0 z⟩) fun h' tk m t' hk h1 h2 => ⟨.int _, H, I.kept hk, ⟨_, rfl⟩, q1 m h1 h2⟩
end
section
theorem ins_pw (x : Int) : ∀ l : List Int, l.Pairwise (· ≤ ·) → (ins x l).Pairwise (· ≤ ·)
  | [], _ => by unfold ins; simp
  | y :: l, h => by
    unfold ins
    rw [List.pairwise_cons] at h
    by_cases c : x ≤ y
    · rw [if_pos c, List.pairwise_cons, List.pairwise_cons]
      refine ⟨fun z hz => ?_, h⟩
      rcases List.mem_cons.mp hz with rfl | q
      · exact c
      · have := h.1 z q; omega
    · rw [if_neg c, List.pairwise_cons]
      refine ⟨fun z hz => ?_, ins_pw x l h.2⟩
      rcases List.mem_cons.mp ((ins_perm x l).subset hz) with rfl | q
      · omega
      · exact h.1 z q
theorem isort_pw : ∀ l : List Int, (isort l).Pairwise (· ≤ ·)
  | [] => by unfold isort; simp
  | x :: l => by unfold isort; exact ins_pw x _ (isort_pw l)
theorem isort_uniq {l m : List Int} (p : m.Perm l) (s : m.Pairwise (· ≤ ·)) : m = isort l :=
  List.Perm.eq_of_pairwise (fun a b _ _ x y => Int.le_antisymm x y) s (isort_pw l) (p.trans (isort_perm l).symm)
end
end Ev
namespace PyProof.Rows
open PySem
section
variable {prog : Program} {w : World} {A : Around} {E : Value → Shared → Prop} {s : Shared}
theorem collect_tup {l : Addr} {vs : List Value} {Q : List Value → Shared → Prop} (hl : s.heap.IsTuple l vs.toArray)
    (h : Q vs { s with heap := (s.heap.push (seqObj "list" #[] 0)).update s.heap.objs.size (Obj.mapSeq (· ++ vs.toArray)) }) (hsz : vs.length ≤ sizeLine) :
    wpAny (model prog w) A (collect (.ref l)) Q E s := by
  obtain ⟨o, ho, hc, n, hd⟩ := id hl
  unfold collect
  refine wpAny_bind (wpAny_runValue (codeAny_builtin entry_proto_collect' ?_))
  show wpAny _ _ (do again (.builtin "list.__iadd__" ⟨[← newList [], .ref l], []⟩)) _ _ s
  refine wpAny_bind (wpAny_newList (wpAny_pure ⟨Code.quiet_builtin _ (by decide +kernel), codeAny_builtin entry_list_iadd' ?_⟩))
  show wpAny _ _ (Builtin.List.listExtendWith (.ref s.heap.objs.size) (.ref l) (.ref s.heap.objs.size)) _ _ { s with heap := s.heap.push (seqObj "list" #[] 0) }
  unfold Builtin.List.listExtendWith
  have ho' : (s.heap.push (seqObj "list" #[] 0)).get? l = some o := Heap.get?_push_of_some _ ho
  refine wpAny_bind (wpAny_typeOf (T := "tuple") ⟨o, ho', hc⟩ ?_)
  have ht : (Value.type "tuple" == Value.type "tuple") = true := by rfl
  rw [if_pos (by rw [ht]; simp)]
  refine wpAny_bind (listItems_at ho' hd ?_)
  refine wpAny_bind (listItems_at (xs := #[]) (n := 0) (Heap.get?_push_size _ rfl) rfl ?_)
  rw [if_neg (by simp)]
  refine wpAny_bind (listUpdate_at (xs := #[]) (n := 0) (Heap.get?_push_size _ rfl) rfl ?_ (Nat.zero_le _) (by show (#[] ++ vs.toArray).size ≤ sizeLine + 1; simp only [Array.size_append, List.size_toArray, List.length_nil]; omega))
  refine wpAny_pure ?_
  show wpAny (model prog w) A (do
      let o ← load s.heap.objs.size
      match o.data with
      | .seq xs _ => pure xs.toList
      | _ => unsupported "internal:collect") Q E { s with heap := (s.heap.push (seqObj "list" #[] 0)).update s.heap.objs.size (Obj.mapSeq (· ++ vs.toArray)) }
  refine wpAny_bind (wpAny_load (get?_update_seq (Heap.get?_push_size _ rfl) _) ?_)
  show wpAny _ _ (pure ((#[] : Array Value) ++ vs.toArray).toList) Q E _
  rw [show ((#[] : Array Value) ++ vs.toArray).toList = vs by simp]
  exact wpAny_pure h
theorem sorted_intsT {l : Addr} {vs : List Value} {ns : List Int} {Q : Value → Shared → Prop} (hl : s.heap.IsTuple l vs.toArray) (hI : IntsAre vs ns) (h64 : vs.length < 64)
    (h : ∀ (out : Array Value) (ns' : List Int), IntsAre out.toList ns' → ns'.Perm ns → ns'.Pairwise (· ≤ ·) → Q (.ref (s.heap.objs.size + 1)) { s with heap := sortedAll s.heap vs out }) :
    wpAny (model prog w) A (call (.builtin "sorted") [.ref l]) Q E s := by
  have hz : vs.length ≤ sizeLine := by rw [sizeLine_eq]; omega
  refine Calls.call_function_entry kind_sorted plain_sorted entry_sorted (args_sorted1 _) ?_
  unfold Builtin.«sorted»
  refine wpAny_bind (m := checkCount "sorted" 1 1 _) (wpAny_pure ?_)
  refine wpAny_bind (collect_tup hl ?_ hz)
  refine wpAny_bind (wpAny_newList ?_ hz)
  have hsz : ((s.heap.push (seqObj "list" #[] 0)).update s.heap.objs.size (Obj.mapSeq (· ++ vs.toArray))).objs.size = s.heap.objs.size + 1 := by
    rw [Heap.size_update, size_push']
  have hoL : (((s.heap.push (seqObj "list" #[] 0)).update s.heap.objs.size (Obj.mapSeq (· ++ vs.toArray))).push (seqObj "list" vs.toArray 0)).get? (s.heap.objs.size + 1) = some (seqObj "list" vs.toArray 0) := by
    rw [← hsz]; exact Heap.get?_push_size _ rfl
  show wpAny _ _ _ _ _ { s with heap := ((s.heap.push (seqObj "list" #[] 0)).update s.heap.objs.size (Obj.mapSeq (· ++ vs.toArray))).push (seqObj "list" vs.toArray 0) }
  rw [hsz]
  refine wpAny_bind (wpAny_holding (wpAny_call_entry slot_list_sort ⟨_, hoL, rfl⟩ entry_list_sort (list_sort_tree hoL hI h64 fun out ns' a1 a2 a3 => ⟨_, rfl, ?_⟩) (args_list_sort _)))
  exact wpAny_pure ⟨_, rfl, h out ns' a1 a2 a3⟩
end
end PyProof.Rows
namespace Ev
open PySem L2 PyProof.Rows
section
variable {X : Cx}
/-- sorted(xs), ints of a list or a tuple -/
def rSortedB (K : PySem.W.Frag) : List V → Hp → VK → Prop := fun vs H Q => ∃ (a : Addr) (ns : List Int), vs = [V.ref a] ∧ (SqL K H a (ns.map V.int) ∨ SqT K H a (ns.map V.int)) ∧ ns.length < 64 ∧
  ∀ (ns' : List Int) (p : Addr), ns'.Perm ns → ns'.Pairwise (· ≤ ·) → H p = none → Q (.ref p) (upd H p (.lst (ns'.map V.int)))
theorem cr_sortedB : CallR X (.builtin "sorted") (rSortedB X.K) := by
  intro pins s σ H vs us Q I r h
  obtain ⟨a, ns, rfl, hs | hs, h64, q⟩ := h
  · exact cr_sorted pins s σ H _ us Q I r ⟨a, ns, rfl, hs, h64, q⟩
  · obtain ⟨its, rv, hl, _⟩ := I.tuple hs
    rw [Vals.ref1 r]
    have hi := rv.ints
    refine PyProof.Rows.sorted_intsT (show s.heap.IsTuple a its.toArray from hl) hi (by rw [hi.length]; exact h64) fun out ns' h1 h2 h3 => ?_
    obtain ⟨ep, he'⟩ := PyProof.Rows.sortedAll_at s.heap its out
    have hlen : (ns'.map V.int).length ≤ sizeLine := by rw [List.length_map, h2.length_eq]; exact small64 h64
    exact ⟨.ref _, upd H (s.heap.objs.size + 1) (.lst (ns'.map V.int)), I.laid (t' := s.toks) (fun _ _ => PyProof.Rows.sortedAll_old) (Nat.le_succ _) ⟨hlen, out.toList, ep, vals_of_ints h1, he'⟩, rfl, q ns' _ h2 h3 (I.hok.fresh (Nat.le_succ _))⟩
end
section
variable {X : Cx} {cl : List Value} {Wx : WX} {pos p kpos : Pos} {x : Str} {e : Expr} {el : En → Hw → Res (List W × Gu × Bool)}
theorem srcL {G : GX} {m : List Addr} {H : Hp} {h : Hw} {q : List W × Gu × Bool} {v : V} {ns : List Int} (s : Src G.K H m q v) (b : ¬ q.2.2 = true) (hn : toInts q.1 = some ns) : ∃ a, v = .ref a ∧ SqL G.K H a (ns.map V.int) := by
  obtain ⟨a, vs, rfl, r, s⟩ := s
  have e := ints_of r hn
  subst e
  rcases s with ⟨_, z⟩ | ⟨_, s | s | ⟨n, _, s, _⟩⟩
  · exact absurd z b
  · exact ⟨a, rfl, s.sq⟩
  · exact ⟨a, rfl, .of s.1⟩
  · exact ⟨a, rfl, .of s⟩
theorem s_maxD {j : Int} {jj : Nat} {cpos : Pos} (hc : X.calm = true) (hx : x = "max") (hg : Gl X x) (hm : X.mg x = none) (ha : PE X e (tL (gx X cl) Wx el)) (he : starEach [e] X.env = [(false, eval e X.env)]) :
    PE X (.Call (.Name x p) [e] [⟨some (Str.ofString "default"), .Constant (.int j) jj cpos, kpos⟩] pos) (tE (gx X cl) Wx fun ρ h => (el ρ h).bind fun q h => maxDf q.1 q.2.2 j h) := by
  subst hx
  refine conseq (pe_callBK (cr_maxDf hc) hg hm (by decide +kernel) (s_one1 ha he) (pk_cons pe_int pk_nil) (by decide) (by decide) (by rw [he]; rfl) (by rw [he]; rfl)) fun σ H Q z => tR.bind z fun m ρ q v h H1 rs rh rr z1 => ?_
  have z1 : RV (gx X cl) (Rep (gx X cl).K) m H1 (if q.2.2 = true then .err else match toInts q.1 with
    | some [] => .ok (.int j) h
    | some (n :: ns) => .ok (.int (maxL (n :: ns))) h
    | none => .err) Q _ := z1
  split at z1
  · exact z1.no
  · rename_i hb
    split at z1
    · rename_i hn
      obtain ⟨a, rfl, s⟩ := srcL (h := h) rr hb hn
      exact ⟨a, [], .int j, rfl, rfl, s, fun _ => z1.here rh .int', fun M h1 _ => by simp at h1⟩
    · rename_i n ns hn
      obtain ⟨a, rfl, s⟩ := srcL (h := h) rr hb hn
      exact ⟨a, n :: ns, .int j, rfl, rfl, s, fun z => by simp at z, fun M h1 h2 => by rw [maxL_uniq h1 h2]; exact z1.here rh .int'⟩
    · exact z1.no
theorem s_srt (hx : x = "sorted") (hg : Gl X x) (hm : X.mg x = none) (ha : PE X e (tL (gx X cl) Wx el)) (he : starEach [e] X.env = [(false, eval e X.env)]) :
    PE X (.Call (.Name x p) [e] [] pos) (tE (gx X cl) Wx fun ρ h => (el ρ h).bind fun q h => srtf q.1 q.2.2 h) := by
  subst hx
  refine conseq (pe_callB cr_sortedB hg hm (by decide +kernel) (s_one1 ha he) (by decide) (by decide) he rfl) fun σ H Q z => tR.bind z fun m ρ q v h H1 rs rh rr z1 => ?_
  have z1 : RV (gx X cl) (Rep (gx X cl).K) m H1 (match toInts q.1 with
    | some ns => if ns.length < 64 then .ok (.ref h.length) (h ++ [.lst ((isort ns).map .int)]) else .err
    | none => .err) Q _ := z1
  split at z1
  · rename_i ns hn
    split at z1
    · rename_i hl
      have fin : ∀ (ns' : List Int) (q' : Addr), ns'.Perm ns → ns'.Pairwise (· ≤ ·) → H1 q' = none → Q (.ref q') (upd H1 q' (.lst (ns'.map V.int))) := fun ns' q' p1 p2 hq => by rw [isort_uniq p1 p2]; exact z1.newL rh (repL_ints _) q' hq
      by_cases hb : q.2.2 = true
      · obtain ⟨a, vs, rfl, r, s⟩ := rr
        have e := ints_of r hn
        subst e
        rcases s with ⟨s, _⟩ | ⟨z, _⟩
        · exact ⟨a, ns, rfl, .inr s.sq, hl, fin⟩
        · rw [hb] at z; cases z
      · obtain ⟨a, rfl, s⟩ := srcL (h := h) rr hb hn
        exact ⟨a, ns, rfl, .inl s, hl, fin⟩
    · exact z1.no
  · exact z1.no
theorem bls_of {G : GX} {H : Hp} {m : List Addr} : ∀ {ws : List W} {vs : List V} {bs : List Bool}, RepL G.K H m ws vs → toBls ws = some bs → vs = bs.map V.bl
  | [], vs, ns, r, e => by
    unfold RepL at r; subst r
    cases e; rfl
  | w :: ws, vs, ns, r, e => by
    obtain ⟨v, q, rfl, r1, r2⟩ := r.uncons
    cases w with
    | bl i =>
      have e : (toBls ws).map (i :: ·) = some ns := e
      cases e1 : toBls ws with
      | none => rw [e1] at e; cases e
      | some ms =>
        rw [e1] at e; cases e
        rw [r1.bl_of, bls_of r2 e1]; rfl
    | _ => cases e
theorem srcB {G : GX} {m : List Addr} {H : Hp} {h : Hw} {q : List W × Gu × Bool} {v : V} {ns : List Bool} (s : Src G.K H m q v) (b : ¬ q.2.2 = true) (hn : toBls q.1 = some ns) : ∃ a, v = .ref a ∧ SqL G.K H a (ns.map V.bl) := by
  obtain ⟨a, vs, rfl, r, s⟩ := s
  have e := bls_of r hn
  subst e
  rcases s with ⟨_, z⟩ | ⟨_, s | s | ⟨n, _, s, _⟩⟩
  · exact absurd z b
  · exact ⟨a, rfl, s.sq⟩
  · exact ⟨a, rfl, .of s.1⟩
  · exact ⟨a, rfl, .of s⟩
theorem s_aa {kk : Bool} (hc : X.calm = true) (hx : x = (if kk then ("all" : Str) else ("any" : Str))) (hg : Gl X x) (hm : X.mg x = none) (ha : PE X e (tL (gx X cl) Wx el)) (he : starEach [e] X.env = [(false, eval e X.env)]) :
    PE X (.Call (.Name x p) [e] [] pos) (tE (gx X cl) Wx fun ρ h => (el ρ h).bind fun q h => aaf kk q.1 q.2.2 h) := by
  have key : ∀ (q : List W × Gu × Bool) (h : Hw) (m : List Addr) (H1 : Hp) (v : V) (Q : VK) (E : XK), RelH (gx X cl).K m H1 h → Src (gx X cl).K H1 m q v → RV (gx X cl) (Rep (gx X cl).K) m H1 (aaf kk q.1 q.2.2 h) Q E → ∃ (a : Addr) (bs : List Bool), [v] = [V.ref a] ∧ SqL (gx X cl).K H1 a (bs.map V.bl) ∧ Q (.bl (if kk then bs.all id else bs.any id)) H1 := by
    intro q h m H1 v Q E rh rr z1
    have z1 : RV (gx X cl) (Rep (gx X cl).K) m H1 (if q.2.2 = true then .err else match toBls q.1 with
      | some bs => .ok (.bl (if kk then bs.all id else bs.any id)) h
      | none => .err) Q E := z1
    split at z1
    · exact z1.no
    · rename_i hb
      split at z1
      · rename_i ns hn
        obtain ⟨a, rfl, s⟩ := srcB (h := h) rr hb hn
        exact ⟨a, ns, rfl, s, z1.here rh .bl'⟩
      · exact z1.no
  cases kk with
  | true =>
    subst hx
    refine conseq (pe_callB (cr_all hc) hg hm (by decide +kernel) (s_one1 ha he) (by decide) (by decide) he rfl) fun σ H Q z => tR.bind z fun m ρ q v h H1 rs rh rr z1 => key q h m H1 v Q _ rh rr z1
  | false =>
    subst hx
    refine conseq (pe_callB (cr_any hc) hg hm (by decide +kernel) (s_one1 ha he) (by decide) (by decide) he rfl) fun σ H Q z => tR.bind z fun m ρ q v h H1 rs rh rr z1 => key q h m H1 v Q _ rh rr z1
def tTupRgF (te : L2.St → Hp → (Int → Int → Hp → Prop) → Prop) : TE := fun σ H Q => te σ H fun a b H1 => RgOk a b ∧ NewT (rgV a b) H1 Q
theorem pe_tupRgF {e : Expr} {te : L2.St → Hp → (Int → Int → Hp → Prop) → Prop} {p pos : Pos} (hc : X.calm = true) (hg : Gl X "tuple") (hm : X.mg "tuple" = none) (he : PRg X e te)
    (na : starEach [e] X.env = (false, eval e X.env) :: starEach [] X.env) : PE X (.Call (.Name "tuple" p) [e] [] pos) (tTupRgF te) :=
  ⟨fun pins s σ H Q I h => Call_ (ld_blt I hg hm boot_tuple (PyProof.Rows.callWith_type1 (args_cons (thn (he pins s σ H _ I h) fun x s1 y => args_nil (by
    obtain ⟨r, a, b, t, u, v, K1, ex, hr, J, ok, q⟩ := y
    subst ex
    refine call_tuple_range (n := (b - a).toNat) (J.ok.hd hc) hr (small_one ok.1 ok.2.1 ok.2.2.1 ok.2.2.2.1) (rangeSize_nat a b) ok.2.2.2.2 fun h2 tk2 its hk hi => ?_
    have J2 : Inv X pins σ K1 { s1 with heap := h2, toks := tk2 } := J.kept hk
    have z := laidF (vs := rgV a b) (its := its.toList) J2 (by rw [rgV_length, sizeLine_eq]; have := ok.2.2.2.2; omega) (vals_rg hi) q
    rw [Array.toArray_toList] at z
    exact z)) na) na))⟩
theorem s_tr2 {a b : Expr} {ea eb : En → Hw → Res W} {p p2 pos2 : Pos} (hc : X.calm = true) (hg : Gl X "tuple") (hm : X.mg "tuple" = none) (hg2 : Gl X "range") (hm2 : X.mg "range" = none) (ha : PE X a (tE (gx X cl) Wx ea)) (hb : PE X b (tE (gx X cl) Wx eb)) (hs : starEach [a, b] X.env = [(false, eval a X.env), (false, eval b X.env)]) (hs2 : starEach [b] X.env = [(false, eval b X.env)]) :
    PE X (.Call (.Name "tuple" p) [.Call (.Name "range" p2) [a, b] [] pos2] [] pos) (tE (gx X cl) Wx fun ρ h => (ea ρ h).bind fun x h => (eb ρ h).bind fun y h => match x, y with
      | .int i, .int j => if -(2 ^ 62) ≤ i ∧ i < 2 ^ 62 ∧ -(2 ^ 62) ≤ j ∧ j < 2 ^ 62 ∧ (j - i).toNat ≤ lim then .ok (.tup (rng i (j - i).toNat)) h else .err
      | _, _ => .err) :=
  conseq (pe_tupRgF hc hg hm (prg_2 hg2 hm2 ha hb (by rw [hs, hs2]) hs2 (by rw [hs2]; rfl)) rfl) fun σ H Q z => tR.bind z fun m ρ w v h H1 rs rh r z1 => tR.next rs rh z1 fun m2 w2 v2 h2 H2 n rs2 rh2 r2 z2 => by
    try dsimp only at z2
    split at z2
    · rename_i i j
      split at z2
      · rename_i hj
        rw [(r.mono n).int_of, r2.int_of]
        exact ⟨i, j, rfl, rfl, ⟨hj.1, hj.2.1, hj.2.2.1, hj.2.2.2.1, hj.2.2.2.2⟩, z2.newT rh2 (rep_rg i j)⟩
      · exact z2.no
    · exact z2.no
end
end Ev

set_option Elab.async false
set_option linter.all false
set_option maxRecDepth 100000
set_option maxHeartbeats 4000000
/-! EvS: set(l) of a list of ints, known as a set that can be walked (the kit has it of a tuple). -/
namespace Ev
open PySem PySem.Spec PyProof.Rows L2
section
variable {P : Program} {w : World} {A : Around} {E : Value → Shared → Prop} {s : Shared}
/-- the empty set object that set.__new__ lays -/
abbrev es0 (w : World) : Obj := { cls := .type "set", dict := none, data := .set #[] 0 (.fresh 0 0 (!w.params.followText "set-order")) }
/-- what set.__init__ has done -/
def Filled (w : World) (s : Shared) (ns : List Int) (s2 : Shared) : Prop := ∃ h' tk c, s2 = { s with heap := h', toks := tk } ∧ SetR w h' s.heap.objs.size (fun j => decide (j ∈ ns)) c ∧ c ≤ ns.length ∧ ∀ b o, s.heap.get? b = some o → h'.get? b = some o
set_option maxHeartbeats 6400000 in
theorem call_set_lst {l : Addr} {items : Array Value} (ns : List Int) {Q : Value → Shared → Prop} (hh : A.handled = none) (hl : s.heap.IsList l items) (hit : IntsAre items.toList ns) (hb : ns.length + 1 < scanBound)
    (h : ∀ (h' : Heap) (tk c : Nat), SetR w h' s.heap.objs.size (fun j => decide (j ∈ ns)) c → c ≤ ns.length → (∀ b o, s.heap.get? b = some o → h'.get? b = some o) → Q (.ref s.heap.objs.size) { s with heap := h', toks := tk }) :
    wpAny (model P w) A (call (.type "set") [.ref l]) Q E s := by
  have sz : items.size = ns.length := by
    have q := IntsAre.length hit
    rwa [Array.length_toList] at q
  obtain ⟨mc, mt, mro⟩ := F.called_set.mro
  have made := F.called_set.made
  have sub := F.called_set.sub
  refine wpAny_call (codeAny_of_tree ?_)
  show wpAny _ _ (callAny (.type "set") _) _ _ _
  refine wpAny_pure ⟨Code.quiet_builtin _ (by decide +kernel), codeAny_builtin F.entry_type_call ?_⟩
  rw [Around.under_plain (weight_type_call_type "set" [.ref l] []) rfl]
  have nt := F.called_set.notType
  have cn := F.called_set.canCreate
  have tc := F.typeCall_set_1 (.ref l)
  repeat (any_goals (first | assumption | wp_step))
  refine codeAny_mono (code_set_led1 (.ref l) (E := E) (Q₁ := fun obj t => obj = .ref s.heap.objs.size ∧ t = { s with heap := s.heap.push (es0 w) }) ⟨rfl, rfl⟩) fun r t hr => ?_
  cases r with
  | error e => exact hr
  | ok fl =>
    cases fl with
    | ret obj =>
      obtain ⟨rfl, rfl⟩ := hr
      have atS : (s.heap.push (es0 w)).get? s.heap.objs.size = some (es0 w) := Heap.get?_push_size _ rfl
      have isS : Shared.TypeIs { s with heap := s.heap.push (es0 w) } (.ref s.heap.objs.size) "set" := ⟨_, atS, rfl⟩
      have li := F.called_set.init.lookup
      have bi := F.called_set.init.bind (.ref s.heap.objs.size)
      repeat (any_goals (first | assumption | wp_step))
      refine codeAny_mono (codeAny_call_builtin (R := wants (fun r s2 => r = .none ∧ Filled w s ns s2) E) F.called_set.init.plain F.entry_set_init (check_set_init_1 isS ?_)) fun r2 s2 hr2 => ?_
      · obtain ⟨ol, hol, hcl, nl, hdl⟩ := hl
        obtain ⟨ocls, odict, odata, oslots⟩ := ol
        simp only at hcl hdl
        subst hcl; subst hdl
        have hol' : (s.heap.push (es0 w)).get? l = some { cls := .type "list", dict := odict, data := .seq items nl, slots := oslots } := Heap.get?_push_of_some _ hol
        have hsls := F.sub_list_set
        have hslf := F.sub_list_frozenset
        have hne : (Value.type "list" == Value.type "dict") = false := by decide
        have hl1 : (s.heap.push (es0 w)).IsList l items := ⟨_, hol', rfl, nl, rfl⟩
        unfold Builtin.«set.__init__» noKeywords Builtin.Frozenset.updateFrom
        generalize hPI : pyIter = PI
        wp_walk
        subst hPI
        refine wpAny_pyIter_list hl1 ?_
        refine wpAny_bind (wpAny_runValue ?_)
        have lS : l < s.heap.objs.size := Heap.lt_size hol
        have pz : (s.heap.push (es0 w)).objs.size = s.heap.objs.size + 1 := Heap.size_push ..
        have h3 : A.in1.in1.in1.handled = none := by simp [hh]
        have neI : l ≠ (s.heap.push (es0 w)).objs.size := by rw [pz]; exact Nat.ne_of_lt (Nat.lt_succ_of_lt lS)
        have nS : s.heap.objs.size ∉ [(s.heap.push (es0 w)).objs.size, l] := by
          rw [pz]
          intro z
          rcases List.mem_cons.mp z with z | z
          · exact absurd z (Nat.ne_of_lt (Nat.lt_succ_self _))
          · exact absurd (List.mem_singleton.mp z) (Nat.ne_of_gt lS)
        have val : ∀ (i : Nat) (v : Value), items[i]? = some v → ∃ k t, ns[i]? = some k ∧ v = .int k t := fun i v hv => by
          have hi : i < ns.length := by rw [← sz]; exact (Array.getElem?_eq_some_iff.mp hv).1
          obtain ⟨t, e⟩ := IntsAre.int_at hit i v (by rw [Array.getElem?_toList]; exact hv)
          exact ⟨ns[i], t, List.getElem?_eq_getElem hi, by rw [e, List.getD_eq_getElem?_getD, List.getElem?_eq_getElem hi] <;> rfl⟩
        refine set_update_ints ((Walks.list h3 _ l neI items).toS) s.heap.objs.size nS ns sz hb val (items.size - 0) 0 _ (by omega) (Nat.zero_le _)
          ⟨⟨_, Heap.get?_push_size _ rfl, rfl, rfl⟩, (hl1.push _)⟩ ⟨0, Nat.le_refl 0, setR_new_at (Heap.get?_push_of_some _ atS)⟩ fun t c' hm hc' hS' => ?_
        obtain ⟨h', g2, d', tk', os'⟩ := t
        have eg : g2 = s.gens := hm.gens
        have ed : d' = s.drawn := hm.drawn
        have eo : os' = s.os := hm.os
        subst eg; subst ed; subst eo
        show wpAny _ _ _ _ _ _
        refine wpAny_pure ?_
        show wpAny _ _ (ret Value.none) _ _ _
        rw [sz] at hc'
        refine wpAny_pure ⟨rfl, h', tk', c', rfl, hS', hc', fun b o e => ?_⟩
        have b0 : b < s.heap.objs.size := Heap.lt_size e
        refine hm.heap b o (fun z => ?_) (Heap.get?_push_of_some _ (Heap.get?_push_of_some _ e))
        rcases List.mem_cons.mp z with z | z
        · exact absurd z (Nat.ne_of_lt b0)
        · exact absurd ((List.mem_singleton.mp z).trans pz) (Nat.ne_of_lt (Nat.lt_succ_of_lt b0))
      · cases r2 with
        | error e => exact hr2
        | ok fl2 =>
          cases fl2 with
          | ret r =>
            obtain ⟨rfl, h', tk, c', rfl, hS', hc', hk'⟩ := hr2
            repeat (any_goals (first | assumption | wp_step))
            exact h _ _ _ hS' hc' hk'
          | _ => exact hr2.elim
    | _ => exact hr.elim
theorem call_set_seq {l : Addr} (ns : List Int) {Q : Value → Shared → Prop} (hh : A.handled = none) (hl : ∃ items : Array Value, (s.heap.IsTuple l items ∨ s.heap.IsList l items) ∧ IntsAre items.toList ns) (hb : ns.length + 1 < scanBound)
    (h : ∀ (h' : Heap) (tk c : Nat), SetR w h' s.heap.objs.size (fun j => decide (j ∈ ns)) c → c ≤ ns.length → (∀ b o, s.heap.get? b = some o → h'.get? b = some o) → Q (.ref s.heap.objs.size) { s with heap := h', toks := tk }) :
    wpAny (model P w) A (call (.type "set") [.ref l]) Q E s := by
  obtain ⟨items, hi | hi, hit⟩ := hl
  · exact call_set_tupI ns hh hi hit hb h
  · exact call_set_lst ns hh hi hit hb h
end
end Ev

set_option Elab.async false
set_option linter.all false
set_option maxRecDepth 100000
set_option maxHeartbeats 4000000
/-! EvH: ranges backwards and as values, sorted(set(t)), constants of the module, two for. -/
namespace Ev
open PySem PySem.Spec PyProof.Rows L2

/-! ### range(i, j, -1) -/
theorem rngd_get {lo : Int} {n i : Nat} {w : W} (h : (rngd lo n)[i]? = some w) : i < n ∧ w = .int (lo - i) := by
  unfold rngd at h
  rw [List.getElem?_map] at h
  cases e : (List.range n)[i]? with
  | none => rw [e] at h; cases h
  | some j =>
    rw [e] at h; cases h
    obtain ⟨h1, h2⟩ := List.getElem?_eq_some_iff.mp e
    rw [List.getElem_range] at h2
    subst h2
    exact ⟨by simpa using h1, rfl⟩
theorem rngd_len (lo : Int) (n : Nat) : (rngd lo n).length = n := by unfold rngd; simp
theorem itd_ok {G : GX} {ig : IG} {m0 : List Addr} {H0 : Hp} {lo : Int} {n : Nat} : ItOk G ig m0 H0 (Itc lo (-1) n) (rngd lo n, []) := fun i m H hw nx rh g => by
  refine ⟨fun w hw => ?_, fun hl => ?_⟩
  · obtain ⟨h1, rfl⟩ := rngd_get hw
    refine ⟨h1, fun x H' y => ?_⟩
    obtain ⟨rfl, rfl⟩ := y
    have e : lo + (i : Int) * (-1) = lo - i := by omega
    rw [e]
    exact ⟨.refl, rh, Rep.g .int'⟩
  · rw [rngd_len] at hl; exact hl
section
variable {X : Cx} {cl : List Value} {Wx : WX} {ig : IG} {p pos : Pos} {tg a b c : Expr} {ea eb ec : En → Hw → Res W}
theorem s_rng3 {q1 q2 : Pos} (hg : Gl X "range") (hm : X.mg "range" = none) (ha : PE X a (tE (gx X cl) Wx ea)) (hb : PE X b (tE (gx X cl) Wx eb)) (sa : ∀ es env, starEach (a :: es) env = (false, eval a env) :: starEach es env) (sb : ∀ es env, starEach (b :: es) env = (false, eval b env) :: starEach es env) {jj : Nat} :
    PI X tg (.Call (.Name "range" p) [a, b, .UnaryOp .USub (.Constant (.int 1) jj q1) q2] [] pos) (tI (gx X cl) ig Wx fun ρ h => (ea ρ h).bind fun x h => (eb ρ h).bind fun y h => match x, y with
      | .int i, .int j => if -(2 ^ 62) ≤ i ∧ i < 2 ^ 62 ∧ -(2 ^ 62) ≤ j ∧ j < 2 ^ 62 then .ok (rngd i (i - j).toNat, []) h else .err
      | _, _ => .err) := by
  refine conseqI (pi_range3 hg hm (pa_cons ha (pa_cons hb (pa_cons (pe_un un_neg pe_int) pa_nil rfl) (sb _ _)) (sa _ _)) (sa _ _) (by rw [sb]; rfl)) fun σ H R z => tR.bind z fun m ρ w v h H1 rs rh r z1 => tR.next rs rh z1 fun m2 w2 v2 h2 H2 n rs2 rh2 r2 z2 => ?_
  try dsimp only at z2
  split at z2
  · rename_i i j
    split at z2
    · rename_i hj
      rw [(r.mono n).int_of, r2.int_of]
      exact ⟨1, rfl, i, j, -1, (i - j).toNat, rfl, RgC.neg hj.1 hj.2.1 hj.2.2.1 hj.2.2.2, z2.here rh2 itd_ok⟩
    · exact z2.no
  · exact z2.no

theorem s_rgR {q1 q2 : Pos} (hg : Gl X "range") (hm : X.mg "range" = none) (hg2 : Gl X "reversed") (hm2 : X.mg "reversed" = none) (ha : PE X a (tE (gx X cl) Wx ea)) (sa : starEach [a] X.env = (false, eval a X.env) :: starEach [] X.env) :
    PI X tg (.Call (.Name "reversed" p) [.Call (.Name "range" q1) [a] [] q2] [] pos) (tI (gx X cl) ig Wx fun ρ h => (ea ρ h).bind fun x h => match x with
      | .int j => if -(2 ^ 62) ≤ j ∧ j < 2 ^ 62 then .ok (rngd ((j.toNat : Int) - 1) j.toNat, []) h else .err
      | _ => .err) := by
  refine conseqI (pi_revR hg2 hm2 (prg_1 hg hm ha sa)) fun σ H R z => tR.bind z fun m ρ w v h H1 rs rh r z1 => ?_
  try dsimp only at z1
  split at z1
  · rename_i j
    split at z1
    · rename_i hj
      rw [r.int_of]
      refine ⟨j, rfl, by omega, by omega, hj.1, hj.2, ?_⟩
      have e1 : (0 : Int) + (((j - 0).toNat : Nat) : Int) - 1 = (j.toNat : Int) - 1 := by rw [Int.sub_zero, Int.zero_add]
      rw [e1, Int.sub_zero]
      exact z1.here rh itd_ok
    · exact z1.no
  · exact z1.no

/-! ### range(n) as a value -/
theorem cr_range1 : CallR X (.type "range") (fun vs H Q => ∃ j, vs = [V.int j] ∧ ∀ p, H p = none → Q (.ref p) (upd H p (.rng 0 j))) := by
  intro pins s σ H vs us Q I r h
  obtain ⟨j, rfl, q⟩ := h
  cases r with
  | cons r1 rr =>
    cases rr
    obtain ⟨t, rfl⟩ := r1
    refine call_range_1 ⟨.ref s.heap.objs.size, upd H s.heap.objs.size (.rng 0 j), I.laid (fun b o e => Heap.get?_push_of_some _ e) (Nat.le_refl _) ?_, rfl, q _ (I.hok.fresh (Nat.le_refl _))⟩
    exact ⟨_, _, _, Heap.get?_push_size _ rfl⟩
def iRgV (te : TE) : TI := fun σ H R => te σ H fun x H1 => ∃ a lo hi, x = .ref a ∧ H1 a = some (.rng lo hi) ∧ (-(2 ^ 62) ≤ lo ∧ lo < 2 ^ 62 ∧ -(2 ^ 62) ≤ hi ∧ hi < 2 ^ 62) ∧ R (Itr lo (hi - lo).toNat) H1
theorem pi_rgv {e : Expr} {te : TE} (he : PE X e te) : PI X tg e (iRgV te) := by
  refine ⟨fun pins s σ H R I h => ?_⟩
  refine thn (he.run pins s σ H _ I h) fun v s1 ⟨x, H1, I1, r1, q1⟩ => ?_
  obtain ⟨a, lo, hi, e, hr, ⟨h1, h2, h3, h4⟩, q⟩ := q1
  subst e
  cases r1
  obtain ⟨t, u, v, ho⟩ := I1.hok a _ hr
  refine wpAny_pyIter_range ho (small_one h1 h2 h3 h4) ?_
  refine ⟨s1.heap.objs.size, [s1.heap.objs.size], _, _, H1, rfl, I1.kept (t' := s1.toks) fun b o e => Heap.get?_push_of_some _ e, turn_range _ lo (hi - lo).toNat, ?_, fun b hb => ?_, q⟩
  · have e1 : lo + ((0 : Nat) : Int) * 1 = lo := by simp
    have e2 : (((hi - lo).toNat : Nat) : Int) - ((0 : Nat) : Int) = Builtin.Range.rangeSize lo hi 1 := by rw [rangeSize_one]; split <;> omega
    show IsRangeIter _ _ (lo + ((0 : Nat) : Int) * 1) ((((hi - lo).toNat : Nat) : Int) - ((0 : Nat) : Int)) 1
    rw [e1, e2]
    exact Heap.get?_push_size _ rfl
  · have e : b = s1.heap.objs.size := by simpa using hb
    subst e
    exact I1.fpOk (Nat.le_refl _) (I1.hok.fresh (Nat.le_refl _))
theorem s_rgN (hg : Gl X "range") (hm : X.mg "range" = none) (ha : PE X a (tE (gx X cl) Wx ea)) (hs : starEach [a] X.env = [(false, eval a X.env)]) :
    PE X (.Call (.Name "range" p) [a] [] pos) (tE (gx X cl) Wx fun ρ h => (ea ρ h).bind fun x h => match x with
      | .int j => .ok (.rg 0 j) h
      | _ => .err) := by
  refine conseq (pe_callTy cr_range1 hg hm (by decide +kernel) (pa_cons ha pa_nil hs) (by decide) (by decide) hs rfl) fun σ H Q z => tR.bind z fun m ρ w v h H1 rs rh r z1 => ?_
  try dsimp only at z1
  split at z1
  · rename_i j
    rw [r.int_of]
    refine ⟨j, rfl, fun q hq => ?_⟩
    have n : Nx m H1 m (upd H1 q (.rng 0 j)) := Nx.laid hq
    exact z1 m _ _ n (rh.laid hq) (by unfold Rep; exact ⟨q, rfl, upd_same, rh.free hq⟩)
  · exact z1.no
theorem s_rgv {e : Expr} {ee : En → Hw → Res W} (he : PE X e (tE (gx X cl) Wx ee)) : PI X tg e (tI (gx X cl) ig Wx fun ρ h => (ee ρ h).bind fun x h => match x with
    | .rg i j => if -(2 ^ 62) ≤ i ∧ i < 2 ^ 62 ∧ -(2 ^ 62) ≤ j ∧ j < 2 ^ 62 then .ok (rng i (j - i).toNat, []) h else .err
    | _ => .err) :=
  conseqI (pi_rgv he) fun σ H R z => tR.bind z fun m ρ w v h H1 rs rh r z1 => by
    try dsimp only at z1
    split at z1
    · rename_i i j
      split at z1
      · rename_i hj
        unfold Rep at r
        obtain ⟨a, rfl, ha, _⟩ := r
        exact ⟨a, i, j, rfl, ha, hj, z1.here rh itr_ok⟩
      · exact z1.no
    · exact z1.no
end

/-! ### sorted(set(t)) -/
theorem insD_mem (x k : Int) : ∀ l : List Int, k ∈ insD x l ↔ k = x ∨ k ∈ l
  | [] => by simp [insD]
  | y :: ys => by
    unfold insD
    split
    · simp
    · split
      · rename_i h1 h2
        subst h2
        simp
      · have := insD_mem x k ys
        simp only [List.mem_cons, this]
        constructor
        · rintro (h | h | h) <;> simp [h]
        · rintro (h | h | h) <;> simp [h]
theorem insD_lt (x : Int) : ∀ l : List Int, l.Pairwise (· < ·) → (insD x l).Pairwise (· < ·)
  | [], _ => by simp [insD]
  | y :: ys, h => by
    have h2 := List.pairwise_cons.mp h
    unfold insD
    split
    · rename_i h1
      refine List.pairwise_cons.mpr ⟨fun z hz => ?_, h⟩
      rcases List.mem_cons.mp hz with e | e
      · rw [e]; exact h1
      · have := h2.1 z e; omega
    · split
      · exact h
      · rename_i h1 h3
        refine List.pairwise_cons.mpr ⟨fun z hz => ?_, insD_lt x ys h2.2⟩
        rcases (insD_mem x z ys).mp hz with e | e
        · omega
        · exact h2.1 z e
theorem dsort_mem (k : Int) : ∀ l : List Int, k ∈ dsort l ↔ k ∈ l
  | [] => by simp [dsort]
  | x :: xs => by
    unfold dsort
    rw [insD_mem, dsort_mem k xs, List.mem_cons]
theorem dsort_lt : ∀ l : List Int, (dsort l).Pairwise (· < ·)
  | [] => by simp [dsort]
  | x :: xs => insD_lt x _ (dsort_lt xs)
theorem lt_uniq : ∀ (l l' : List Int), l.Pairwise (· < ·) → l'.Pairwise (· < ·) → (∀ k, k ∈ l ↔ k ∈ l') → l = l'
  | [], [], _, _, _ => rfl
  | [], y :: ys, _, _, h => by have := (h y).mpr (by simp); simp at this
  | x :: xs, [], _, _, h => by have := (h x).mp (by simp); simp at this
  | x :: xs, y :: ys, p, q, h => by
    have p2 := List.pairwise_cons.mp p
    have q2 := List.pairwise_cons.mp q
    have e : x = y := by
      rcases List.mem_cons.mp ((h x).mp (by simp)) with e | e
      · exact e
      · rcases List.mem_cons.mp ((h y).mpr (by simp)) with e2 | e2
        · exact e2.symm
        · have := q2.1 x e
          have := p2.1 y e2
          omega
    subst e
    rw [lt_uniq xs ys p2.2 q2.2 fun k => ?_]
    constructor
    · intro hk
      rcases List.mem_cons.mp ((h k).mp (List.mem_cons_of_mem _ hk)) with e | e
      · have := p2.1 k hk; omega
      · exact e
    · intro hk
      rcases List.mem_cons.mp ((h k).mpr (List.mem_cons_of_mem _ hk)) with e | e
      · have := q2.1 k hk; omega
      · exact e
section
variable {X : Cx} {cl : List Value} {Wx : WX} {p p2 pos q : Pos} {a : Expr} {el : En → Hw → Res (List W × Gu × Bool)}
def tSrtD (K : PySem.W.Frag) (ta : TE) : TE := fun σ H Q => ta σ H fun x H1 => ∃ (l : Addr) (ns : List Int), x = .ref l ∧ (SqT K H1 l (ns.map V.int) ∨ SqL K H1 l (ns.map V.int)) ∧ ns.length < 64 ∧
  ∀ (ns' : List Int) (p : Addr), ns'.Pairwise (· < ·) → (∀ k : Int, k ∈ ns' ↔ k ∈ ns) → H1 p = none → Q (.ref p) (upd H1 p (.lst (ns'.map V.int)))
theorem pe_srtD {ta : TE} (hc : X.calm = true) (hg : Gl X "sorted") (hm : X.mg "sorted" = none) (hg2 : Gl X "set") (hm2 : X.mg "set" = none) (ha : PE X a ta) (na : starEach [a] X.env = (false, eval a X.env) :: starEach [] X.env) :
    PE X (.Call (.Name "sorted" p) [.Call (.Name "set" p2) [a] [] q] [] pos) (tSrtD X.K ta) := by
  refine ⟨fun pins s σ H Q I h => ?_⟩
  refine Call_ (ld_blt (u := .builtin "sorted") I hg hm (by first | rfl | decide +kernel) ?_ (by decide) (by decide))
  refine PyProof.Rows.callWith_builtin1 (PyProof.Rows.args_cons ?_ rfl) rfl rfl
  refine Call_ (ld_blt I hg2 hm2 PyProof.Rows.boot_set ?_)
  refine PyProof.Rows.callWith_type1 (PyProof.Rows.args_cons (thn (ha.run pins s σ H _ I h) fun v s1 ⟨x, H1, I1, r1, q1⟩ => PyProof.Rows.args_nil ?_) na) na rfl
  obtain ⟨l, ns, rfl, hq, h1, q1⟩ := q1
  cases r1
  refine call_set_seq ns (I1.ok.hd hc) (by
    rcases hq with hq | hq
    · obtain ⟨its, rv, pt, hz⟩ := I1.tuple hq
      exact ⟨its.toArray, .inl (show s1.heap.IsTuple l its.toArray from pt), ints_of_vals rv⟩
    · obtain ⟨its, rv, pl, hz⟩ := I1.list hq
      exact ⟨its.toArray, .inr pl.isList, ints_of_vals rv⟩) (by unfold scanBound; omega) fun h' tk c R1 hcn k => ?_
  refine PyProof.Rows.args_nil ?_
  have I2 : Inv X pins σ H1 { s1 with heap := h', toks := tk } := I1.kept fun b o e => k b o e
  refine sorted_set R1 (I2.ok.hd hc) (by omega) fun s' p' out c' ns' k' g' o' hp hgp hi' hs hm' hl => ?_
  have hlen : (ns'.map V.int).length ≤ sizeLine := by rw [List.length_map, hl, sizeLine_eq]; omega
  have hn : H1 p' = none := I2.hok.fresh hp
  have J : Inv X pins σ (upd H1 p' (.lst (ns'.map V.int))) { s1 with heap := s'.heap, gens := s'.gens, drawn := s'.drawn, toks := s'.toks } :=
    Inv.call (s := { s1 with heap := h', toks := tk }) (ch := []) I2 (Un.laid k' hp hn) (I2.hok.laid k' hp ⟨hlen, out.toList, c', vals_of_ints hi', hgp⟩) (by rw [g']; exact I2.bare) (fun _ z => nomatch z)
  have e : s' = { s1 with heap := s'.heap, gens := s'.gens, drawn := s'.drawn, toks := s'.toks } := by
    cases s'
    cases s1
    cases o'
    rfl
  rw [e]
  exact ⟨.ref p', _, J, rfl, q1 ns' p' hs (fun k => by rw [hm', decide_eq_true_eq]) hn⟩
theorem srcT {G : GX} {m : List Addr} {H : Hp} {h : Hw} {q : List W × Gu × Bool} {v : V} {ns : List Int} (s : Src G.K H m q v) (b : ¬ q.2.2 = false) (hn : toInts q.1 = some ns) : ∃ a, v = .ref a ∧ SqT G.K H a (ns.map V.int) := by
  obtain ⟨a, vs, rfl, r, s⟩ := s
  have e := ints_of (G := G) r hn
  subst e
  rcases s with ⟨s, _⟩ | ⟨k, _⟩
  · exact ⟨a, rfl, s.sq⟩
  · exact absurd k b
theorem s_srtD (hc : X.calm = true) (hg : Gl X "sorted") (hm : X.mg "sorted" = none) (hg2 : Gl X "set") (hm2 : X.mg "set" = none) (ha : PE X a (tL (gx X cl) Wx el)) (he : starEach [a] X.env = [(false, eval a X.env)]) :
    PE X (.Call (.Name "sorted" p) [.Call (.Name "set" p2) [a] [] q] [] pos) (tE (gx X cl) Wx fun ρ h => (el ρ h).bind fun q h => srtDf q.1 q.2.2 h) := by
  refine conseq (pe_srtD hc hg hm hg2 hm2 ha he) fun σ H Q z => tR.bind z fun m ρ q v h H1 rs rh rr z1 => ?_
  have z1 : RV (gx X cl) (Rep (gx X cl).K) m H1 (match toInts q.1 with
    | some ns => if ns.length < 64 then .ok (.ref h.length) (h ++ [.lst ((dsort ns).map .int)]) else .err
    | none => .err) Q _ := z1
  split at z1
  · rename_i ns hn
    have src : ∃ a, v = .ref a ∧ (SqT (gx X cl).K H1 a (ns.map V.int) ∨ SqL (gx X cl).K H1 a (ns.map V.int)) := by
      cases hb : q.2.2 with
      | true =>
        obtain ⟨a, e, s⟩ := srcT (G := gx X cl) (h := h) rr (by rw [hb]; decide) hn
        exact ⟨a, e, .inl s⟩
      | false =>
        obtain ⟨a, e, s⟩ := srcL (G := gx X cl) (h := h) rr (by rw [hb]; decide) hn
        exact ⟨a, e, .inr s⟩
    obtain ⟨a, rfl, s⟩ := src
    split at z1
    · rename_i hl
      exact ⟨a, ns, rfl, s, hl, fun ns' q' p1 p2 hq => by
        rw [lt_uniq ns' (dsort ns) p1 (dsort_lt ns) fun k => (p2 k).trans (dsort_mem k ns).symm]
        exact z1.newL rh (repL_ints _) q' hq⟩
    · exact z1.no
  · exact z1.no
end

/-! ### constants of the module -/
mutual
theorem W.eqb_eq : ∀ {a b : W}, W.eqb a b = true → a = b
  | .non, .non, _ => rfl
  | .bl a, .bl b, h => by unfold W.eqb at h; rw [of_decide_eq_true h]
  | .int a, .int b, h => by unfold W.eqb at h; rw [of_decide_eq_true h]
  | .str a, .str b, h => by unfold W.eqb at h; rw [of_decide_eq_true h]
  | .tup xs, .tup ys, h => by unfold W.eqb at h; rw [W.eqbs_eq h]
  | .fl _, _, h => by simp [W.eqb] at h
  | .ref _, _, h => by simp [W.eqb] at h
  | .rg _ _, _, h => by simp [W.eqb] at h
  | .non, .bl _, h => by simp [W.eqb] at h
  | .non, .int _, h => by simp [W.eqb] at h
  | .non, .str _, h => by simp [W.eqb] at h
  | .non, .tup _, h => by simp [W.eqb] at h
  | .non, .fl _, h => by simp [W.eqb] at h
  | .non, .ref _, h => by simp [W.eqb] at h
  | .non, .rg _ _, h => by simp [W.eqb] at h
  | .bl _, .non, h => by simp [W.eqb] at h
  | .bl _, .int _, h => by simp [W.eqb] at h
  | .bl _, .str _, h => by simp [W.eqb] at h
  | .bl _, .tup _, h => by simp [W.eqb] at h
  | .bl _, .fl _, h => by simp [W.eqb] at h
  | .bl _, .ref _, h => by simp [W.eqb] at h
  | .bl _, .rg _ _, h => by simp [W.eqb] at h
  | .int _, .non, h => by simp [W.eqb] at h
  | .int _, .bl _, h => by simp [W.eqb] at h
  | .int _, .str _, h => by simp [W.eqb] at h
  | .int _, .tup _, h => by simp [W.eqb] at h
  | .int _, .fl _, h => by simp [W.eqb] at h
  | .int _, .ref _, h => by simp [W.eqb] at h
  | .int _, .rg _ _, h => by simp [W.eqb] at h
  | .str _, .non, h => by simp [W.eqb] at h
  | .str _, .bl _, h => by simp [W.eqb] at h
  | .str _, .int _, h => by simp [W.eqb] at h
  | .str _, .tup _, h => by simp [W.eqb] at h
  | .str _, .fl _, h => by simp [W.eqb] at h
  | .str _, .ref _, h => by simp [W.eqb] at h
  | .str _, .rg _ _, h => by simp [W.eqb] at h
  | .tup _, .non, h => by simp [W.eqb] at h
  | .tup _, .bl _, h => by simp [W.eqb] at h
  | .tup _, .int _, h => by simp [W.eqb] at h
  | .tup _, .str _, h => by simp [W.eqb] at h
  | .tup _, .fl _, h => by simp [W.eqb] at h
  | .tup _, .ref _, h => by simp [W.eqb] at h
  | .tup _, .rg _ _, h => by simp [W.eqb] at h
theorem W.eqbs_eq : ∀ {a b : List W}, W.eqbs a b = true → a = b
  | [], [], _ => rfl
  | x :: xs, y :: ys, h => by
    unfold W.eqbs at h
    simp only [Bool.and_eq_true] at h
    rw [W.eqb_eq h.1, W.eqbs_eq h.2]
  | [], _ :: _, h => by simp [W.eqbs] at h
  | _ :: _, [], h => by simp [W.eqbs] at h
end
/-- a value that stands for good -/
def conB : Nat → PySem.W.Frag → W → Value → Bool
  | 0, _, _, _ => false
  | n + 1, K, w, v => match w, v with
    | .non, .none => true
    | .bl a, .bool b => decide (a = b)
    | .int a, .int b _ => decide (a = b)
    | .str a, .str b _ => decide (a = b)
    | .tup xs, .ref p => match K.lookup p with
      | some o => match o.data with
        | .seq its _ => (o.cls == .type "tuple") && o.dict.isNone && decide (its.size ≤ sizeLine) && decide (xs.length = its.size) && (xs.zip its.toList).all fun z => conB n K z.1 z.2
        | _ => false
      | none => false
    | _, _ => false
/-- what it stands for, whatever the heap -/
def ConV (K : PySem.W.Frag) (w : W) (v : Value) : Prop := ∃ u, RelV u v ∧ ∀ H m, Rep K H m w u
theorem conL {K : PySem.W.Frag} : ∀ {ws : List W} {its : List Value}, ws.length = its.length → (∀ z ∈ ws.zip its, ConV K z.1 z.2) → ∃ us, Vals us its ∧ ∀ H m, RepL K H m ws us
  | [], [], _, _ => ⟨[], .nil, fun _ _ => .nil⟩
  | w :: ws, v :: its, h, c => by
    obtain ⟨u, r1, c1⟩ := c (w, v) (by simp)
    obtain ⟨us, r2, c2⟩ := conL (ws := ws) (its := its) (by simpa using h) fun z hz => c z (by simp [hz])
    exact ⟨u :: us, .cons r1 r2, fun H m => .cons (c1 H m) (c2 H m)⟩
  | [], _ :: _, h, _ => by simp at h
  | _ :: _, [], h, _ => by simp at h
theorem conB_ok {K : PySem.W.Frag} : ∀ (n : Nat) (w : W) (v : Value), conB n K w v = true → ConV K w v
  | 0, _, _, h => by simp [conB] at h
  | n + 1, w, v, h => by
    unfold conB at h
    split at h
    · exact ⟨.non, rfl, fun H m => by unfold Rep; rfl⟩
    · rename_i a b
      rw [of_decide_eq_true h]
      exact ⟨.bl b, rfl, fun H m => by unfold Rep; rfl⟩
    · rename_i a b t
      rw [of_decide_eq_true h]
      exact ⟨.int b, ⟨t, rfl⟩, fun H m => by unfold Rep; rfl⟩
    · rename_i a b t
      rw [of_decide_eq_true h]
      exact ⟨.str b, ⟨t, rfl⟩, fun H m => by unfold Rep; rfl⟩
    · rename_i xs p
      split at h
      · rename_i o ho
        split at h
        · rename_i its k hd
          simp only [Bool.and_eq_true, decide_eq_true_eq, List.all_eq_true, beq_iff_eq] at h
          obtain ⟨⟨⟨⟨h1, h0⟩, h2⟩, h3⟩, h4⟩ := h
          obtain ⟨us, r, c⟩ := conL (K := K) (ws := xs) (its := its.toList) (by rw [h3, Array.length_toList]) fun z hz => conB_ok n z.1 z.2 (h4 z hz)
          exact ⟨.ref p, rfl, fun H m => by unfold Rep; exact ⟨p, us, rfl, .inr ⟨o, its, k, ho, h1, Option.isNone_iff_eq_none.mp h0, hd, h2, r⟩, c H m⟩⟩
        · cases h
      · cases h
    · cases h
section
variable {X : Cx} {cl : List Value} {Wx : WX} {pos : Pos}
theorem s_glc {x : Str} {w : W} {v : Value} (hg : Gl X x) (hm : X.mg x = some v) (c : ConV X.K w v) (hd : (x == ("__debug__" : Str)) = false) : PE X (.Name x pos) (tE (gx X cl) Wx fun _ h => .ok w h) := by
  obtain ⟨u, r, c⟩ := c
  refine conseq (pe_glob hg hm r hd) fun σ H Q z => ?_
  obtain ⟨m, ρ, h, rs, rh, z⟩ := z
  exact z.here rh (c H m)
end
end Ev

set_option Elab.async false
set_option linter.all false
set_option maxRecDepth 100000
set_option maxHeartbeats 4000000
/-! EvI: comprehensions with two for. -/
namespace Ev
open PySem PySem.Spec PyProof.Rows L2
/-- what is walked, whatever a list in the air becomes -/
def RI2 (G : GX) (ig : IG) : Hp → List Addr → List W × Gu → It → Prop := fun H m q J => ∀ D ys zs, H D = some (.lst ys) → D ∉ m → ItOk G ig m (upd H D (.lst zs)) J q
abbrev tI2 (G : GX) (ig : IG) (Wx : WX) (ev : En → Hw → Res (List W × Gu)) : TI := tR G Wx (RI2 G ig) ev
theorem upd_back {H : Hp} {D : Addr} {o : HO} (h : H D = some o) : upd H D o = H := by
  funext b
  by_cases e : b = D
  · rw [e, upd_same, h]
  · rw [upd_ne e]
theorem upd_two {H : Hp} {D : Addr} {o o' : HO} : upd (upd H D o) D o' = upd H D o' := by
  funext b
  by_cases e : b = D
  · rw [e, upd_same, upd_same]
  · rw [upd_ne e, upd_ne e, upd_ne e]
theorem Nx.updD {m m' : List Addr} {H H' : Hp} {D : Addr} {u o : HO} (x : Nx m H m' H') (hD : H D = some u) : Nx m (upd H D o) m' (upd H' D o) := by
  refine ⟨x.pre, fun a v e hm => ?_, fun a ha hm => ?_, fun a xs e => ?_, fun a y u' e => ?_⟩
  · by_cases h : a = D
    · subst h
      rw [upd_same] at e ⊢; exact e
    · rw [upd_ne h] at e ⊢; exact x.fr a v e hm
  · have z := x.new a ha hm
    have h : a ≠ D := fun y => by rw [y, hD] at z; cases z
    rw [upd_ne h]; exact z
  · by_cases h : a = D
    · subst h
      rw [upd_same] at e ⊢; exact ⟨xs, e⟩
    · rw [upd_ne h] at e ⊢; exact x.kd a xs e
  · by_cases h : a = D
    · subst h
      rw [upd_same] at e ⊢; exact e
    · rw [upd_ne h] at e ⊢; exact x.fz a y u' e
section
variable {G : GX} {Wx : WX} {σ : L2.St} {H : Hp} {Q : VK}
theorem tLc2_of {α : Type} {R' : Hp → List Addr → α → V → Prop} {ei ei1 : En → Hw → Res (List W × Gu)} {et et1 : En → Hw → Res Bool} {ee : En → Hw → Res W} {ig ig1 : IG} {own own1 : List Nat} {kk : List W → Hw → Res α}
    (hsl : ∀ i ∈ slots ig, i ∈ own) (hsl1 : ∀ i ∈ slots ig1, i ∈ own1)
    (z : tR G Wx R' (fun ρ h => (ei ρ h).bind fun q h => (compM ig q.2 et (fun ρ h acc => (ei1 ρ h).bind fun q2 h => compL ig1 q2.2 et1 ee own1 ρ q2.1 h acc) own ρ q.1 h []).bind kk) σ H Q)
    (hk : ∀ m0 H0 m1 H1 h1 D ys vs, Nx m0 H0 m1 H1 → H0 D = none → RelH G.K m1 H1 h1 → Air H1 m1 D vs → RepL G.K H1 m1 ys vs → RV G R' m0 H0 (kk ys h1) Q (fun c d H' => Wx c d σ H') → Q (.ref D) H1) :
    tLc2 (tI G ig Wx ei) (gG G.K ig) (tT G noX et) (tI2 G ig1 noX ei1) (gG G.K ig1) (tT G noX et1) (tE G noX ee) own own1 σ H Q :=
  tR.bind z fun m0 ρ q J h0 H0 rs rh it z1 => fun D hD => by
    generalize hin : (fun ρ h acc => (ei1 ρ h).bind fun q2 h => compL ig1 q2.2 et1 ee own1 ρ q2.1 h acc : En → Hw → List W → Res (List W)) = inner at z1
    have ne : compM ig q.2 et inner own ρ q.1 h0 [] ≠ .err := fun e => by rw [e] at z1; exact z1.no
    generalize hfull : compM ig q.2 et inner own ρ q.1 h0 [] = full at z1 ne
    refine ⟨fun i mm H => ∃ m1 h1 accV accW, Nx m0 H0 m1 H ∧ RelH G.K m1 H h1 ∧ Air H m1 D accV ∧ RepL G.K H m1 accW accV ∧ mm = q.1.length - i ∧ i ≤ q.1.length ∧ compM ig q.2 et inner own ρ (q.1.drop i) h1 accW = full,
      ⟨q.1.length, m0, h0, [], [], Nx.airNew .refl hD, rh.laid hD, ⟨upd_same, rh.free hD⟩, .nil, by simp, Nat.zero_le _, by simpa using hfull⟩, ?_⟩
    rintro i mm H1 ⟨m1, h1, accV, accW, n1, rh1, air, ra, rfl, hi, hc⟩
    obtain hlt | heq := Nat.lt_or_eq_of_le hi
    · -- a turn
      have hd : q.1.drop i = q.1[i] :: q.1.drop (i + 1) := List.drop_eq_getElem_cons hlt
      rw [hd] at hc
      unfold compM at hc
      obtain ⟨gu, hc⟩ := guard_ok hc ne
      obtain ⟨go, yl⟩ := (it i m1 H1 h1 n1 rh1 gu).1 q.1[i] (List.getElem?_eq_getElem hlt)
      refine .inr ⟨go, fun H' => ∃ m1 h1 accV accW, Nx m0 H0 m1 H' ∧ RelH G.K m1 H' h1 ∧ Air H' m1 D accV ∧ RepL G.K H' m1 accW accV ∧ compM ig q.2 et inner own ρ (q.1.drop (i + 1)) h1 accW = full, fun H' ⟨m2, h2, av, aw, a1, a2, a3, a4, a5⟩ => ⟨q.1.length - (i + 1), by omega, m2, h2, av, aw, a1, a2, a3, a4, rfl, hlt, a5⟩, fun x H2 y => ?_⟩
      obtain ⟨n2, rh2, rx⟩ := yl x H2 y
      have n02 := n1.trans n2
      split at hc
      · exact absurd hc.symm ne
      · rename_i ρ' ea
        refine gG_okG (G := G) (m := m1) ig ((rs.mono n02).wipe own) rx ea fun σ2 rs2 wi => ⟨?_, ?_⟩
        · rw [wi own hsl, wipe_wipe]
        · refine ⟨m1, ρ', h1, rs2, rh2, ?_⟩
          split at hc
          · rename_i h3 et1'
            rw [et1']
            intro m3 H3 b n3 rh3 e3
            rw [show b = true from e3]
            refine iteT ⟨m3, ρ', h3, rs2.mono n3, rh3, ?_⟩
            split at hc
            · rename_i accE hE hi1
              have n13 := n2.trans n3
              have air3 := air.mono n13
              have ra3 := ra.mono n13
              rw [← hin] at hi1
              dsimp only at hi1
              cases e1 : ei1 ρ' h3 with
              | ok q1 h4 =>
                rw [e1] at hi1
                simp only [Res.bind_ok] at hi1
                intro m4 H4 J1 n4 rh4 it1
                have ne1 : (Res.ok accE hE : Res (List W)) ≠ .err := fun z => by cases z
                have n14 := n13.trans n4
                refine ⟨fun j kk H => ∃ m5 h5 accV accW, Nx m4 (upd H4 D (.lst accV)) m5 H ∧ RelH G.K m5 H h5 ∧ Air H m5 D accV ∧ RepL G.K H m5 accW accV ∧ kk = q1.1.length - j ∧ j ≤ q1.1.length ∧ compL ig1 q1.2 et1 ee own1 ρ' (q1.1.drop j) h5 accW = .ok accE hE,
                  ⟨q1.1.length, m4, h4, accV, accW, by rw [upd_back (air3.mono n4).1]; exact .refl, rh4, air3.mono n4, ra3.mono n4, by simp, Nat.zero_le _, by simpa using hi1⟩, ?_⟩
                rintro j kk2 H5 ⟨m5, h5, accV5, accW5, n5, rh5, air5, ra5, rfl, hj, hc5⟩
                obtain hlt5 | heq5 := Nat.lt_or_eq_of_le hj
                · have hd5 : q1.1.drop j = q1.1[j] :: q1.1.drop (j + 1) := List.drop_eq_getElem_cons hlt5
                  rw [hd5] at hc5
                  unfold compL at hc5
                  obtain ⟨gu5, hc5⟩ := guard_ok hc5 ne1
                  obtain ⟨go5, yl5⟩ := (it1 D accV accV5 (air3.mono n4).1 (air3.mono n4).2 j m5 H5 h5 n5 rh5 gu5).1 q1.1[j] (List.getElem?_eq_getElem hlt5)
                  refine .inr ⟨go5, fun H' => ∃ m5 h5 accV accW, Nx m4 (upd H4 D (.lst accV)) m5 H' ∧ RelH G.K m5 H' h5 ∧ Air H' m5 D accV ∧ RepL G.K H' m5 accW accV ∧ compL ig1 q1.2 et1 ee own1 ρ' (q1.1.drop (j + 1)) h5 accW = .ok accE hE, fun H' ⟨m2, h2, av, aw, a1, a2, a3, a4, a5⟩ => ⟨q1.1.length - (j + 1), by omega, m2, h2, av, aw, a1, a2, a3, a4, rfl, hlt5, a5⟩, fun x H6 y => ?_⟩
                  obtain ⟨n6, rh6, rx6⟩ := yl5 x H6 y
                  split at hc5
                  · exact absurd hc5.symm ne1
                  · rename_i ρ2 ea2
                    have rs5 : RepS G.K H6 m5 ρ' σ2 := (((rs2.mono n3).mono n4).air (air3.mono n4).1).mono (n5.trans n6)
                    refine gG_okG (G := G) (m := m5) ig1 (rs5.wipe own1) rx6 ea2 fun σ3 rs3 wi3 => ⟨?_, ?_⟩
                    · rw [wi3 own1 hsl1, wipe_wipe]
                    · refine ⟨m5, ρ2, h5, rs3, rh6, ?_⟩
                      split at hc5
                      · rename_i h7 et7
                        rw [et7]
                        intro m7 H7 b7 n7 rh7 e7
                        rw [show b7 = true from e7]
                        refine iteT ⟨m7, ρ2, h7, rs3.mono n7, rh7, ?_⟩
                        split at hc5
                        · rename_i yw h8 ee8
                          rw [ee8]
                          intro m8 H8 yv n8 rh8 ry
                          split at hc5
                          · rename_i hl
                            have n58 := (n6.trans n7).trans n8
                            have air8 := air5.mono n58
                            refine ⟨accV5, air8.1, by rw [← ra5.len, ← lim_eq]; exact hl, m8, h8, accV5 ++ [yv], accW5 ++ [yw], by have z := (n5.trans n58).updD (o := .lst (accV5 ++ [yv])) upd_same; rw [upd_two] at z; exact z, rh8.air air8.1 air8.2, ⟨upd_same, air8.2⟩, (RepL.air air8.1 ((ra5.mono n58).append (.cons ry .nil))), hc5⟩
                          · exact absurd hc5.symm ne1
                        · exact absurd hc5.symm ne1
                      · rename_i h7 et7
                        rw [et7]
                        intro m7 H7 b7 n7 rh7 e7
                        rw [show b7 = false from e7]
                        have n57 := n6.trans n7
                        exact iteF ⟨m7, h7, accV5, accW5, n5.trans n57, rh7, air5.mono n57, ra5.mono n57, hc5⟩
                      · exact absurd hc5.symm ne1
                · rw [heq5, List.drop_length] at hc5
                  unfold compL at hc5
                  obtain ⟨gu5, hc5⟩ := guard_ok hc5 ne1
                  cases hc5
                  exact .inl ⟨(it1 D accV accV5 (air3.mono n4).1 (air3.mono n4).2 j m5 H5 _ n5 rh5 gu5).2 (Nat.le_of_eq heq5.symm), m5, _, accV5, _, ((n1.trans n14).airNew hD).trans n5, rh5, air5, ra5, hc⟩
              | exc x h4 => rw [e1] at hi1; cases hi1
              | err => rw [e1] at hi1; cases hi1
            · exact absurd hc.symm ne
          · rename_i h3 et1'
            rw [et1']
            intro m3 H3 b n3 rh3 e3
            rw [show b = false from e3]
            have n13 := n2.trans n3
            exact iteF ⟨m3, h3, accV, accW, n1.trans n13, rh3, air.mono n13, ra.mono n13, hc⟩
          · exact absurd hc.symm ne
    · -- the end
      rw [heq, List.drop_length] at hc
      unfold compM at hc
      obtain ⟨gu, hc⟩ := guard_ok hc ne
      subst hc
      exact .inl ⟨(it i m1 H1 h1 n1 rh1 gu).2 (Nat.le_of_eq heq.symm), hk m0 H0 m1 H1 h1 D accW accV n1 hD rh1 air ra z1⟩
/-- as items -/
theorem tLc2_items {ei ei1 : En → Hw → Res (List W × Gu)} {et et1 : En → Hw → Res Bool} {ee : En → Hw → Res W} {ig ig1 : IG} {own own1 : List Nat} (hsl : ∀ i ∈ slots ig, i ∈ own) (hsl1 : ∀ i ∈ slots ig1, i ∈ own1)
    (z : tL G Wx (fun ρ h => (ei ρ h).bind fun q h => (compM ig q.2 et (fun ρ h acc => (ei1 ρ h).bind fun q2 h => compL ig1 q2.2 et1 ee own1 ρ q2.1 h acc) own ρ q.1 h []).bind fun ys h => .ok (ys, [], false) h) σ H Q) :
    tLc2 (tI G ig Wx ei) (gG G.K ig) (tT G noX et) (tI2 G ig1 noX ei1) (gG G.K ig1) (tT G noX et1) (tE G noX ee) own own1 σ H Q :=
  tLc2_of hsl hsl1 z fun m0 H0 m1 H1 h1 D ys vs n hD rh air r z1 => z1 m1 H1 _ n rh ⟨D, vs, rfl, r, .inr ⟨rfl, .inr (.inl air)⟩⟩
/-- as a new list -/
theorem tLc2_list {ei ei1 : En → Hw → Res (List W × Gu)} {et et1 : En → Hw → Res Bool} {ee : En → Hw → Res W} {ig ig1 : IG} {own own1 : List Nat} (hsl : ∀ i ∈ slots ig, i ∈ own) (hsl1 : ∀ i ∈ slots ig1, i ∈ own1)
    (z : tE G Wx (fun ρ h => ((ei ρ h).bind fun q h => (compM ig q.2 et (fun ρ h acc => (ei1 ρ h).bind fun q2 h => compL ig1 q2.2 et1 ee own1 ρ q2.1 h acc) own ρ q.1 h []).bind fun ys h => Res.ok (ys, ([] : Gu), false) h).bind fun q h => .ok (.ref h.length) (h ++ [.lst q.1])) σ H Q) :
    tLc2 (tI G ig Wx ei) (gG G.K ig) (tT G noX et) (tI2 G ig1 noX ei1) (gG G.K ig1) (tT G noX et1) (tE G noX ee) own own1 σ H Q := by
  have z' : tE G Wx (fun ρ h => (ei ρ h).bind fun q h => (compM ig q.2 et (fun ρ h acc => (ei1 ρ h).bind fun q2 h => compL ig1 q2.2 et1 ee own1 ρ q2.1 h acc) own ρ q.1 h []).bind fun ys h => .ok (.ref h.length) (h ++ [.lst ys])) σ H Q := by
    obtain ⟨m, ρ, h, rs, rh, z⟩ := z
    refine ⟨m, ρ, h, rs, rh, ?_⟩
    simp only [Res.bind_assoc, Res.bind_ok] at z
    simp only [Res.bind_assoc]
    exact z
  refine tLc2_of hsl hsl1 z' fun m0 H0 m1 H1 h1 D ys vs n hD rh air r z1 => ?_
  obtain ⟨rh2, ad⟩ := rh.adopt air.1 air.2 r
  refine z1 (m1 ++ [D]) H1 _ ⟨?_, n.fr, fun a ha hm => ?_, n.kd, n.fz⟩ rh2 (.ref' (by rw [← rh.len, List.getElem?_append_right (Nat.le_refl _)]; simp))
  · obtain ⟨t, rfl⟩ := n.pre
    exact ⟨t ++ [D], by rw [List.append_assoc]⟩
  · rcases List.mem_append.mp ha with ha | ha
    · exact n.new a ha hm
    · rw [List.mem_singleton.mp ha]; exact hD
end
section
variable {X : Cx} {cl : List Value} {Wx : WX} {ig : IG} {p pos : Pos} {tg a b e : Expr} {ea eb ee : En → Hw → Res W}
theorem s_rng1' (hg : Gl X "range") (hm : X.mg "range" = none) (ha : PE X a (tE (gx X cl) Wx ea)) (hs : starEach [a] X.env = [(false, eval a X.env)]) :
    PI X tg (.Call (.Name "range" p) [a] [] pos) (tI2 (gx X cl) ig Wx fun ρ h => (ea ρ h).bind fun x h => match x with
      | .int j => if -(2 ^ 62) ≤ j ∧ j < 2 ^ 62 then .ok (rng 0 j.toNat, []) h else .err
      | _ => .err) :=
  conseqI (pi_range1 hg hm (pa_cons ha pa_nil hs) hs) fun σ H R z => tR.bind z fun m ρ w v h H1 rs rh r z1 => by
    try dsimp only at z1
    split at z1
    · rename_i j
      split at z1
      · rename_i hj
        rw [r.int_of]
        exact ⟨j, rfl, hj.1, hj.2, z1.here rh fun _ _ _ _ _ => itr_ok⟩
      · exact z1.no
    · exact z1.no
theorem s_rng2' (hg : Gl X "range") (hm : X.mg "range" = none) (ha : PE X a (tE (gx X cl) Wx ea)) (hb : PE X b (tE (gx X cl) Wx eb)) (hs : starEach [a, b] X.env = [(false, eval a X.env), (false, eval b X.env)]) (hs2 : starEach [b] X.env = [(false, eval b X.env)]) :
    PI X tg (.Call (.Name "range" p) [a, b] [] pos) (tI2 (gx X cl) ig Wx fun ρ h => (ea ρ h).bind fun x h => (eb ρ h).bind fun y h => match x, y with
      | .int i, .int j => if -(2 ^ 62) ≤ i ∧ i < 2 ^ 62 ∧ -(2 ^ 62) ≤ j ∧ j < 2 ^ 62 then .ok (rng i (j - i).toNat, []) h else .err
      | _, _ => .err) :=
  conseqI (pi_range2 hg hm (pa_cons ha (pa_cons hb pa_nil hs2) (by rw [hs, hs2])) hs hs2) fun σ H R z => tR.bind z fun m ρ w v h H1 rs rh r z1 => tR.next rs rh z1 fun m2 w2 v2 h2 H2 n rs2 rh2 r2 z2 => by
    try dsimp only at z2
    split at z2
    · rename_i i j
      split at z2
      · rename_i hj
        rw [(r.mono n).int_of, r2.int_of]
        exact ⟨i, j, rfl, hj, z2.here rh2 fun _ _ _ _ _ => itr_ok⟩
      · exact z2.no
    · exact z2.no
theorem s_iv' (he : PE X e (tE (gx X cl) Wx ee)) : PI X tg e (tI2 (gx X cl) ig Wx fun ρ h => ((ee ρ h).bind fun x h => match seqOf h x with | some xs => Res.ok (xs, guOf x xs, isTup x) h | none => .err).bind fun q h => .ok (q.1, q.2.1) h) :=
  conseqI (PI.or (pi_list he) (pi_tup he)) fun σ H R ⟨m, ρ, h, rs, rh, z⟩ => by
    try dsimp only at z
    cases e1 : ee ρ h with
    | ok x h' =>
      rw [e1] at z
      simp only [Res.bind_ok] at z
      cases e2 : seqOf h' x with
      | none => rw [e2] at z; exact z.no
      | some xs =>
        rw [e2] at z
        simp only [Res.bind_ok] at z
        cases hk : isTup x with
        | true =>
          refine .inr ⟨m, ρ, h, rs, rh, ?_⟩
          rw [e1]
          intro m' H' v n rh' r
          have s := src_val (G := gx X cl) rh' r e2
          obtain ⟨a, rfl, ⟨_, at1⟩ | ⟨k, _⟩⟩ := src_at (G := gx X cl) s
          · obtain ⟨vs, sq, _⟩ := at1 m' H' h' .refl rh'
            refine ⟨a, rfl, ⟨vs, sq⟩, z m' H' _ n rh' fun D ys zs hD hm => ?_⟩
            have s2 := src_val (G := gx X cl) (rh'.air (zs := zs) hD hm) (r.air hD) e2
            obtain ⟨a', e', ⟨_, at2⟩ | ⟨k, _⟩⟩ := src_at (G := gx X cl) s2
            · cases e'
              exact itt_ok at2
            · rw [show (xs, guOf x xs, isTup x).2.2 = isTup x from rfl, hk] at k; cases k
          · rw [show (xs, guOf x xs, isTup x).2.2 = isTup x from rfl, hk] at k; cases k
        | false =>
          refine .inl ⟨m, ρ, h, rs, rh, ?_⟩
          rw [e1]
          intro m' H' v n rh' r
          have s := src_val (G := gx X cl) rh' r e2
          obtain ⟨a, vs, rfl, sq⟩ := src_lst s hk
          refine ⟨a, rfl, ⟨vs, sq⟩, z m' H' _ n rh' fun D ys zs hD hm => ?_⟩
          have s2 := src_val (G := gx X cl) (rh'.air (zs := zs) hD hm) (r.air hD) e2
          obtain ⟨a', e', ⟨k, _⟩ | ⟨_, at2⟩⟩ := src_at (G := gx X cl) s2
          · rw [show (xs, guOf x xs, isTup x).2.2 = isTup x from rfl, hk] at k; cases k
          · cases e'
            exact itl_ok at2
    | exc x h' =>
      rw [e1] at z
      refine .inl ⟨m, ρ, h, rs, rh, ?_⟩
      rw [e1]; exact z
    | err => rw [e1] at z; exact z.no
/-- a comprehension with two for as a value, as items -/
theorem s_lc2 {elt tg iter tg1 iter1 : Expr} {ifs ifs1 : List Expr} {scope : Scope} {own : List (Str × Nat)} {own1 : List Nat} {ei ei1 : En → Hw → Res (List W × Gu)} {et et1 : En → Hw → Res Bool} {ig ig1 : IG}
    (hc : X.calm = true) (hN : X.N.Nodup) (hi : PI X tg iter (tI (gx X cl) ig Wx ei)) (ok : BlkOk X.N X.env.scope scope own) (hv : ∀ i ∈ own1, i ∈ own.map (·.2))
    (hb : ∀ (s : Shared) (H : Hp) (C : Addr) (cs : List (Str × Addr)) (fp : List Addr), PG (X.blk s H scope (compEnvC scope cs C X.env) fp) tg (gG X.K ig) ∧ PTs (X.blk s H scope (compEnvC scope cs C X.env) fp) ifs (tT (gx X cl) noX et) ∧
      PI (X.blk s H scope (compEnvC scope cs C X.env) fp) tg1 iter1 (tI2 (gx X cl) ig1 noX ei1) ∧ PG (X.blk s H scope (compEnvC scope cs C X.env) fp) tg1 (gG X.K ig1) ∧ PTs (X.blk s H scope (compEnvC scope cs C X.env) fp) ifs1 (tT (gx X cl) noX et1) ∧ PE (X.blk s H scope (compEnvC scope cs C X.env) fp) elt (tE (gx X cl) noX ee))
    (hs : ∀ x, foldedSetIterable iter X.env x = pure x) (hs1 : ∀ env x, foldedSetIterable iter1 env x = pure x) (hsl : ∀ i ∈ slots ig, i ∈ own.map (·.2)) (hsl1 : ∀ i ∈ slots ig1, i ∈ own1) :
    PE X (.ListComp elt [⟨tg, iter, ifs, 0⟩, ⟨tg1, iter1, ifs1, 0⟩] scope pos) (tL (gx X cl) Wx fun ρ h => (ei ρ h).bind fun q h => (compM ig q.2 et (fun ρ h acc => (ei1 ρ h).bind fun q2 h => compL ig1 q2.2 et1 ee own1 ρ q2.1 h acc) (own.map (·.2)) ρ q.1 h []).bind fun ys h => .ok (ys, [], false) h) :=
  conseq (pe_lc2 hc hN hi ok hv (fun s H C cs fp => (hb s H C cs fp).1) (fun s H C cs fp => (hb s H C cs fp).2.1) (fun s H C cs fp => (hb s H C cs fp).2.2.1) (fun s H C cs fp => (hb s H C cs fp).2.2.2.1) (fun s H C cs fp => (hb s H C cs fp).2.2.2.2.1) (fun s H C cs fp => (hb s H C cs fp).2.2.2.2.2) hs hs1) fun σ H Q z => tLc2_items hsl hsl1 z
theorem s_mkLc2 {elt tg iter tg1 iter1 : Expr} {ifs ifs1 : List Expr} {scope : Scope} {own : List (Str × Nat)} {own1 : List Nat} {ei ei1 : En → Hw → Res (List W × Gu)} {et et1 : En → Hw → Res Bool} {ig ig1 : IG}
    (hc : X.calm = true) (hN : X.N.Nodup) (hi : PI X tg iter (tI (gx X cl) ig Wx ei)) (ok : BlkOk X.N X.env.scope scope own) (hv : ∀ i ∈ own1, i ∈ own.map (·.2))
    (hb : ∀ (s : Shared) (H : Hp) (C : Addr) (cs : List (Str × Addr)) (fp : List Addr), PG (X.blk s H scope (compEnvC scope cs C X.env) fp) tg (gG X.K ig) ∧ PTs (X.blk s H scope (compEnvC scope cs C X.env) fp) ifs (tT (gx X cl) noX et) ∧
      PI (X.blk s H scope (compEnvC scope cs C X.env) fp) tg1 iter1 (tI2 (gx X cl) ig1 noX ei1) ∧ PG (X.blk s H scope (compEnvC scope cs C X.env) fp) tg1 (gG X.K ig1) ∧ PTs (X.blk s H scope (compEnvC scope cs C X.env) fp) ifs1 (tT (gx X cl) noX et1) ∧ PE (X.blk s H scope (compEnvC scope cs C X.env) fp) elt (tE (gx X cl) noX ee))
    (hs : ∀ x, foldedSetIterable iter X.env x = pure x) (hs1 : ∀ env x, foldedSetIterable iter1 env x = pure x) (hsl : ∀ i ∈ slots ig, i ∈ own.map (·.2)) (hsl1 : ∀ i ∈ slots ig1, i ∈ own1) :
    PE X (.ListComp elt [⟨tg, iter, ifs, 0⟩, ⟨tg1, iter1, ifs1, 0⟩] scope pos) (tE (gx X cl) Wx fun ρ h => ((ei ρ h).bind fun q h => (compM ig q.2 et (fun ρ h acc => (ei1 ρ h).bind fun q2 h => compL ig1 q2.2 et1 ee own1 ρ q2.1 h acc) (own.map (·.2)) ρ q.1 h []).bind fun ys h => Res.ok (ys, ([] : Gu), false) h).bind fun q h => .ok (.ref h.length) (h ++ [.lst q.1])) :=
  conseq (pe_lc2 hc hN hi ok hv (fun s H C cs fp => (hb s H C cs fp).1) (fun s H C cs fp => (hb s H C cs fp).2.1) (fun s H C cs fp => (hb s H C cs fp).2.2.1) (fun s H C cs fp => (hb s H C cs fp).2.2.2.1) (fun s H C cs fp => (hb s H C cs fp).2.2.2.2.1) (fun s H C cs fp => (hb s H C cs fp).2.2.2.2.2) hs hs1) fun σ H Q z => tLc2_list hsl hsl1 z
end
end Ev

set_option Elab.async false
set_option linter.all false
set_option maxRecDepth 100000
set_option maxHeartbeats 4000000
/-! EvJ: enumerate over a tuple. -/
namespace Ev
open PySem PySem.Spec PyProof.Rows L2

theorem meets_enumT (l : Addr) (items : Array Value) (n : Nat) (dct : Option Addr) (sl : Array (Option Value)) :
    Meets (Builtin.«enumerate.__new__» ⟨[.type "enumerate", .ref l], []⟩) (fun _ R s => s.heap.get? l = some { cls := .type "tuple", dict := dct, data := .seq items n, slots := sl } ∧
      R (.ok (.ret (.ref (s.heap.push { cls := .type "tuple_iterator", data := .fields #[.ref l, .int 0 0] }).objs.size)))
        { s with heap := (s.heap.push { cls := .type "tuple_iterator", data := .fields #[.ref l, .int 0 0] }).push { cls := .type "enumerate", data := .fields #[.none, .bool false, .ref s.heap.objs.size, rawInt 0, .none, .none] } }) :=
  .of_wp fun prog w A R s h => by
    obtain ⟨hp, g, d, tk, os⟩ := s; obtain ⟨hl, h⟩ := h
    have hsub := sub_enumerate
    have hL : Heap.IsTuple (Shared.heap ⟨hp, g, d, tk, os⟩) l items := ⟨_, hl, rfl, n, rfl⟩
    wp_walk using AutoSeq1.wpAny_loadPart' hl
    refine wpAny_stack_any fun st => wpAny_pure ?_
    split
    · rename_i c _ _ _ _ _
      cases (c == Value.type "enumerate")
      · wp_walk using AutoSeq1.wpAny_loadPart' hl, wpAny_pyIter_tuple hL
        exact ⟨_, rfl, h⟩
      · wp_walk using AutoSeq1.wpAny_loadPart' hl, wpAny_pyIter_tuple hL
        exact ⟨_, rfl, h⟩
    · wp_walk using AutoSeq1.wpAny_loadPart' hl, wpAny_pyIter_tuple hL
      exact ⟨_, rfl, h⟩
section
variable {prog : Program} {w : World} {A : Around} {E : Value → Shared → Prop} {s : Shared}
theorem call_enumT {l : Addr} {items : Array Value} {Q : Value → Shared → Prop} (hL : s.heap.IsTuple l items)
    (h : ∀ h', IsEnum h' (s.heap.objs.size + 1) s.heap.objs.size 0 .none → h'.IsTupleIter s.heap.objs.size l 0 → h'.objs.size = s.heap.objs.size + 2 →
      (∀ b o, s.heap.get? b = some o → h'.get? b = some o) → Q (.ref (s.heap.objs.size + 1)) { s with heap := h' }) :
    wpAny (model prog w) A (call (.type "enumerate") [.ref l]) Q E s := by
  obtain ⟨⟨c, dct, dt, sl⟩, hl, hc, n, hd⟩ := hL
  replace hc : c = .type "tuple" := hc
  replace hd : dt = .seq items n := hd
  subst hc hd
  refine callType_new F.called_enumerate (by decide) (F.typeCall_enumerate_1 _) (F.newCall_enumerate_1 _) (fun obj => F.args_object_init_2 obj _) F.entry_enumerate_new
    (meets_enumT l items n dct sl) ⟨hl, ?_⟩
  have hz : (s.heap.push { cls := .type "tuple_iterator", data := .fields #[.ref l, .int 0 0] }).objs.size = s.heap.objs.size + 1 := Heap.size_push ..
  show _ ∧ _
  rw [hz]
  have he : IsEnum ((s.heap.push { cls := .type "tuple_iterator", data := .fields #[.ref l, .int 0 0] }).push
      { cls := .type "enumerate", data := .fields #[.none, .bool false, .ref s.heap.objs.size, rawInt 0, .none, .none] }) (s.heap.objs.size + 1) s.heap.objs.size 0 .none := by
    have := Heap.get?_push_size (s.heap.push { cls := .type "tuple_iterator", data := .fields #[.ref l, .int 0 0] })
      (o := { cls := .type "enumerate", data := .fields #[.none, .bool false, .ref s.heap.objs.size, rawInt 0, .none, .none] }) rfl
    rw [hz] at this; exact this
  exact ⟨⟨_, he, rfl⟩, h _ he ⟨_, Heap.get?_push_of_some _ (Heap.get?_push_size _ rfl), rfl, rfl⟩ (by rw [Heap.size_push, hz]) fun b o x => Heap.get?_push_of_some _ (Heap.get?_push_of_some _ x)⟩
end
/-- the tuple at a as it stands at each turn, each item in a new pair -/
def IteT (K : PySem.W.Frag) (a : Addr) : It :=
  ⟨fun i H => ∃ (xs : List V) (x : V), SqT K H a xs ∧ xs[i]? = some x, fun i H v H' => ∃ T x, v = .ref T ∧ H T = none ∧ H' = upd H T (.tup [.int (i : Nat), x]) ∧ ∀ xs, SqT K H a xs → xs[i]? = some x, fun i H => ∃ xs : List V, SqT K H a xs ∧ xs.length ≤ i⟩
theorem turn_enumT {P : Program} {w : World} {K : PySem.W.Frag} {elts : List Expr} {kk : Nat} {tpos : Pos} (a e it : Addr) :
    Turn P w K (.Tuple elts kk tpos) (IteT K a) [e, it] e (fun i h => (∃ old, IsEnum h e it ((i : Nat) : Int) old) ∧ h.IsTupleIter it a i ∧ e ≠ it) where
  mem := by simp
  obj := fun i h st b hb => by
    obtain ⟨⟨old, he⟩, ⟨o, ho, hc, hd⟩, _⟩ := st
    have e' : b = e ∨ b = it := by simpa using hb
    rcases e' with z | z
    · rw [z]; exact ⟨_, he, fun v q => nomatch q⟩
    · rw [z]; exact ⟨o, ho, fun v q => by rw [hd] at q; cases q⟩
  keep := fun i h h' st k => let ⟨⟨old, he⟩, hi, hne⟩ := st; ⟨⟨old, k e (by simp) _ he⟩, hi.at fun o q => k it (by simp) o q, hne⟩
  item := by
    intro X hP hw hK hc i pins s σ H E I hf st hg
    subst hP hw hK
    obtain ⟨⟨old, he⟩, hit, hne⟩ := st
    obtain ⟨xs, x, hq, hx⟩ := hg
    obtain ⟨its, rv, p, hz⟩ := I.tuple hq
    obtain ⟨u, hu, ru⟩ := rv.get hx
    have hel : e < s.heap.objs.size := Heap.lt_size he
    have hil : it < s.heap.objs.size := by obtain ⟨_, q, _⟩ := hit; exact Heap.lt_size q
    have pt : s.heap.IsTuple a its.toArray := p
    have hae : e ≠ a := fun z => by
      obtain ⟨o, ho, hcl, _⟩ := pt
      rw [← z, he] at ho
      rw [← Option.some.inj ho] at hcl
      exact absurd (show Value.type "enumerate" = Value.type "tuple" from hcl) (by simp)
    have hai : a ≠ it := fun z => by
      obtain ⟨o, ho, hcl, _⟩ := pt
      obtain ⟨o2, ho2, hcl2, _⟩ := hit
      rw [z, ho2] at ho
      rw [← Option.some.inj ho, hcl2] at hcl
      exact absurd (show Value.type "tuple_iterator" = Value.type "tuple" from hcl) (by simp)
    have hlt : i < its.toArray.size := by
      rw [List.size_toArray]; exact (List.getElem?_eq_some_iff.mp hu).1
    refine wpAny_pyNext_enum_itemD (Draws.tuple (A := X.A.in1) (I.ok.hd hc) it a hai its.toArray) he ⟨hit, pt⟩ hlt hne (by simp [hne, hae]) fun x' h' tk hpx ho hst' hT hsz hk => ?_
    obtain rfl : x' = u := by
      have z : its[i]? = some x' := by simpa using hpx
      rw [hu] at z
      exact (Option.some.inj z).symm
    refine ⟨_, rfl, wpAny_letOwnedTupleGo_enum (s := { s with heap := h', toks := tk + 1 }) ho fun h'' he' sb => ?_⟩
    have hT2 : h''.get? s.heap.objs.size = some { cls := .type "tuple", data := .seq #[.int i tk, x'] } := (sb.2 _ (Nat.ne_of_gt hel)).trans hT
    have new : ObjOk X.prog X.w (upd H s.heap.objs.size (.tup [.int (i : Nat), x])) h'' s.heap.objs.size (.tup [.int (i : Nat), x]) :=
      ⟨by show 2 ≤ sizeLine; decide, [.int i tk, x'], .cons ⟨_, rfl⟩ (.cons ru .nil), ⟨_, hT2, rfl, _, rfl⟩⟩
    have I1 : Inv X pins σ (upd H s.heap.objs.size (.tup [.int (i : Nat), x])) { s with heap := h'', toks := tk + 1 } :=
      I.turnedNew (ch := [e, it]) (fun b ob hb q => (sb.2 b (fun z => hb (by simp [z]))).trans (hk b ob (fun z => hb (by simp [z])) (fun z => hb (by simp [z])) q)) hf (Nat.le_refl _) new
    refine ⟨.ref s.heap.objs.size, _, I1, rfl, ⟨_, x, rfl, I.hok.fresh (Nat.le_refl _), rfl, fun ys hy => by rw [I.tuple_inj hy hq]; exact hx⟩, ⟨⟨x', ?_⟩, hst'.1.at fun o q => (sb.2 it (Ne.symm hne)).trans q, hne⟩, fun b hb => ?_⟩
    · have e1 : ((i + 1 : Nat) : Int) = (i : Int) + 1 := by omega
      rw [e1]; exact he'
    · have hb' : b < s.heap.objs.size := by
        have e' : b = e ∨ b = it := by simpa using hb
        rcases e' with z | z
        · rw [z]; exact hel
        · rw [z]; exact hil
      rw [upd_ne (Nat.ne_of_lt hb')]
      exact (hf b hb).1
  done := by
    intro X hP hw hK hc i pins s σ H E I hf st hg
    subst hP hw hK
    obtain ⟨⟨old, he⟩, hit, hne⟩ := st
    obtain ⟨xs, hq, hx⟩ := hg
    obtain ⟨its, rv, p, hz⟩ := I.tuple hq
    have pt : s.heap.IsTuple a its.toArray := p
    obtain ⟨f0, f1, f2, f3, f4, f5⟩ := hf it (by simp)
    have hl := rv.length
    have hT : s.TypeIs (.ref e) "enumerate" := ⟨_, he, rfl⟩
    unfold pyNext
    refine wpAny_bind (wpAny_attempt (wpAny_callSpecial?_slot (name := Str.ofString "__next__") hT F.slot_enumerate_next
      (wpAny_call_entry F.slot_enumerate_next hT F.entry_enumerate_next ?_ (F.args_enumerate_next_1 _))))
    show wpAny _ _ (field (.ref e) 2 >>= _) _ _ _
    refine wpAny_bind (wpAny_field he rfl (x := .ref it) rfl ?_)
    refine wpAny_bind (wpAny_nextOf_tuple_end (I.ok.hd hc) hit pt (by simp; omega) fun h' x he' hx' => ?_)
    obtain ⟨o, ho, hc'⟩ := hx'
    refine wpAny_bind (wpAny_isInstance (T := "StopIteration") (b := true) ⟨o, ho, hc'⟩ isSubtype_stop ?_)
    exact wpAny_pure ⟨rfl, I.turned (t' := s.toks) (fun b o hb q => he' b o hb q) f0 f1 f3 f4 f5⟩
  self := fun A i s Q E st h => let ⟨⟨_, he⟩, _⟩ := st; wpAny_pyIter_enum he h
def iEnumA (K : PySem.W.Frag) (ta : TA) : TI := fun σ H R => ta σ H fun vs H1 => ∃ a xs, vs = [.ref a] ∧ ((SqL K H1 a xs ∧ R (Ite K a) H1) ∨ (SqT K H1 a xs ∧ R (IteT K a) H1))
theorem pi_enumA {X : Cx} {e : Expr} {ta : TA} {p pos tpos : Pos} {elts : List Expr} {kk : Nat} (hg : Gl X "enumerate") (hm : X.mg "enumerate" = none) (ha : PA X [e] ta) (hs : starEach [e] X.env = [(false, eval e X.env)]) :
    PI X (.Tuple elts kk tpos) (.Call (.Name "enumerate" p) [e] [] pos) (iEnumA X.K ta) := by
  refine ⟨fun pins s σ H R I h => ?_⟩
  refine Call_ (ld_blt I hg hm boot_enumerate (PyProof.Rows.callWith_type1 (thn (ha.run pos pins s σ H _ I h) fun us s1 ⟨vs, H1, I1, r1, q1⟩ => ?_) hs rfl))
  obtain ⟨a, xs, ex, hq⟩ := q1
  subst ex
  cases r1 with
  | cons r rr =>
    cases rr
    cases r
    have fp : ∀ (h' : Heap) (hsz : h'.objs.size = s1.heap.objs.size + 2) (b : Addr), b ∈ [s1.heap.objs.size + 1, s1.heap.objs.size] → s1.heap.objs.size ≤ b := fun h' hsz b hb => by
      have e' : b = s1.heap.objs.size + 1 ∨ b = s1.heap.objs.size := by simpa using hb
      rcases e' with z | z
      · rw [z]; exact Nat.le_add_right _ _
      · rw [z]; exact Nat.le_refl _
    rcases hq with ⟨hq, q⟩ | ⟨hq, q⟩
    · obtain ⟨its, rv, p', hz⟩ := I1.list hq
      refine call_enumerate_list p'.isList fun h' he hit hsz hk => wpAny_pyIter_enum he ?_
      have I2 : Inv X pins σ H1 { s1 with heap := h' } := I1.kept (t' := s1.toks) hk
      exact ⟨s1.heap.objs.size + 1, [s1.heap.objs.size + 1, s1.heap.objs.size], _, _, H1, rfl, I2, turn_enum a (s1.heap.objs.size + 1) s1.heap.objs.size, ⟨⟨.none, he⟩, hit, Nat.succ_ne_self _⟩, fun b hb => I1.fpOk (fp h' hsz b hb) (I1.hok.fresh (fp h' hsz b hb)), q⟩
    · obtain ⟨its, rv, p', hz⟩ := I1.tuple hq
      refine call_enumT (show s1.heap.IsTuple a its.toArray from p') fun h' he hit hsz hk => wpAny_pyIter_enum he ?_
      have I2 : Inv X pins σ H1 { s1 with heap := h' } := I1.kept (t' := s1.toks) hk
      exact ⟨s1.heap.objs.size + 1, [s1.heap.objs.size + 1, s1.heap.objs.size], _, _, H1, rfl, I2, turn_enumT a (s1.heap.objs.size + 1) s1.heap.objs.size, ⟨⟨.none, he⟩, hit, Nat.succ_ne_self _⟩, fun b hb => I1.fpOk (fp h' hsz b hb) (I1.hok.fresh (fp h' hsz b hb)), q⟩
section
variable {X : Cx} {cl : List Value} {Wx : WX} {p pos : Pos} {e : Expr} {el : En → Hw → Res (List W × Gu × Bool)} {ts : List IG}
theorem iteT_ok {G : GX} {m0 : List Addr} {H0 : Hp} {q : List W × Gu × Bool} {a : Addr} {ts : List IG} (h : AtT G m0 H0 q a) : ItOk G (.tup ts) m0 H0 (IteT G.K a) (((List.range q.1.length).zip q.1).map fun z => .tup [.int (z.1 : Nat), z.2], q.2.1) := fun i m H hw n rh g => by
  obtain ⟨vs, s, r⟩ := h m H hw n rh
  refine ⟨fun w hw => ?_, fun hl => ⟨vs, s, ?_⟩⟩
  · obtain ⟨x, e1, rfl⟩ := enum_get hw
    obtain ⟨v, hv, rv⟩ := r.get e1
    refine ⟨⟨vs, v, s, hv⟩, fun x' H' y' => ?_⟩
    obtain ⟨T, v', rfl, nT, rfl, f1⟩ := y'
    cases (f1 vs s).symm.trans hv
    exact pair_ok rh nT .int' rv
  · rw [← r.len]
    simp only [List.length_map, List.length_zip, List.length_range] at hl
    omega
theorem s_enumA {elts : List Expr} {kk : Nat} {tpos : Pos} (hg : Gl X "enumerate") (hm : X.mg "enumerate" = none) (he : PE X e (tL (gx X cl) Wx el)) (hs : starEach [e] X.env = [(false, eval e X.env)]) :
    PI X (.Tuple elts kk tpos) (.Call (.Name "enumerate" p) [e] [] pos) (tI (gx X cl) (.tup ts) Wx fun ρ h => (el ρ h).bind fun p h => .ok (((List.range p.1.length).zip p.1).map fun z => .tup [.int (z.1 : Nat), z.2], p.2.1) h) :=
  conseqI (pi_enumA hg hm (s_one1 he hs) hs) fun σ H R z => tR.bind z fun m ρ q v h H1 rs rh s z1 => by
    try dsimp only at z1
    cases hk : q.2.2 with
    | true =>
      obtain ⟨a, rfl, ⟨_, at1⟩ | ⟨k, _⟩⟩ := src_at (G := gx X cl) s
      · obtain ⟨vs, sq, _⟩ := at1 m H1 h .refl rh
        exact ⟨a, vs, rfl, .inr ⟨sq, z1.here rh (iteT_ok at1)⟩⟩
      · rw [hk] at k; cases k
    | false =>
      obtain ⟨a, rfl, ⟨k, _⟩ | ⟨_, at1⟩⟩ := src_at (G := gx X cl) s
      · rw [hk] at k; cases k
      · obtain ⟨a', vs, e', sq⟩ := src_lst s hk
        cases e'
        exact ⟨a, vs, rfl, .inl ⟨sq, z1.here rh (ite_ok at1)⟩⟩
end
end Ev

set_option Elab.async false
set_option linter.all false
set_option maxRecDepth 100000
/-! EvK: dicts with whole keys: what is looked up, what is put. -/
namespace Ev
open PySem PySem.Spec PyProof.Rows L2
section
variable {K : PySem.W.Frag} {H : Hp} {m : List Addr}
theorem zK_nil (us : List V) : zK [] us = [] := rfl
theorem zK_cons (k : Int) (ks : List Int) (v : V) (us : List V) : zK (k :: ks) (v :: us) = (.inl k, v) :: zK ks us := rfl
theorem zK_len : ∀ {ks : List Int} {us : List V}, ks.length = us.length → (zK ks us).length = ks.length
  | [], _, _ => rfl
  | k :: ks, v :: us, h => by
    rw [zK_cons, List.length_cons, List.length_cons, zK_len (by simpa using h)]
  | _ :: _, [], h => by simp at h
theorem look_rep {k : Int} : ∀ {kvs : List (Int × W)} {us : List V}, RepL K H m (kvs.map (·.2)) us →
    (∀ w, lookD kvs k = some w → ∃ v, valV (zK (kvs.map (·.1)) us) (.inl k) = some v ∧ Rep K H m w v) ∧ (lookD kvs k = none → valV (zK (kvs.map (·.1)) us) (.inl k) = none)
  | [], us, _ => ⟨fun w e => (by cases e), fun _ => rfl⟩
  | p :: r, _, h => by
    obtain ⟨v, us, rfl, h1, h2⟩ := RepL.uncons (show RepL K H m (p.2 :: r.map (·.2)) _ from h)
    have ih := look_rep (k := k) h2
    have ez : zK ((p :: r).map (·.1)) (v :: us) = (.inl p.1, v) :: zK (r.map (·.1)) us := rfl
    rw [ez]
    by_cases c : p.1 = k
    · have e1 : lookD (p :: r) k = some p.2 := by unfold lookD; rw [List.find?_cons_of_pos (by simpa using c)]; rfl
      have e2 : valV ((Sum.inl p.1, v) :: zK (r.map (·.1)) us) (.inl k : Key) = some v := valV_pos (by rw [c])
      rw [e1, e2]
      exact ⟨fun w e => (by cases e; exact ⟨v, rfl, h1⟩), fun e => (by cases e)⟩
    · have e1 : lookD (p :: r) k = lookD r k := by unfold lookD; rw [List.find?_cons_of_neg (by simpa using c)]
      have e2 : valV ((Sum.inl p.1, v) :: zK (r.map (·.1)) us) (.inl k : Key) = valV (zK (r.map (·.1)) us) (.inl k) := valV_neg (fun z => c (by cases z; rfl))
      rw [e1, e2]
      exact ih
/-- the entries behind a put, as the kit writes them -/
def putZ : List (Key × V) → Key → V → List (Key × V)
  | [], k, v => [(k, v)]
  | p :: r, k, v => if p.1 = k then (k, v) :: r else p :: putZ r k v
theorem put_rep {k : Int} {w : W} {v : V} (hr : Rep K H m w v) : ∀ {kvs : List (Int × W)} {us : List V}, RepL K H m (kvs.map (·.2)) us →
    ∃ us', putZ (zK (kvs.map (·.1)) us) (.inl k) v = zK ((putD kvs k w).map (·.1)) us' ∧ RepL K H m ((putD kvs k w).map (·.2)) us'
  | [], us, _ => ⟨[v], rfl, .cons hr .nil⟩
  | p :: r, _, h => by
    obtain ⟨u, us, rfl, h1, h2⟩ := RepL.uncons (show RepL K H m (p.2 :: r.map (·.2)) _ from h)
    have ez : zK ((p :: r).map (·.1)) (u :: us) = (.inl p.1, u) :: zK (r.map (·.1)) us := rfl
    rw [ez]
    by_cases c : p.1 = k
    · refine ⟨v :: us, ?_, ?_⟩
      · unfold putZ putD
        rw [if_pos (by rw [c]), if_pos c]; rfl
      · unfold putD
        rw [if_pos c]
        exact .cons hr h2
    · obtain ⟨us', e, q⟩ := put_rep hr h2
      refine ⟨u :: us', ?_, ?_⟩
      · unfold putZ putD
        rw [if_neg (fun z => c (by cases z; rfl)), if_neg c, e]; rfl
      · unfold putD
        rw [if_neg c]
        exact .cons h1 q
theorem put_keys {k : Int} {w : W} : ∀ {kvs : List (Int × W)}, ∀ j, j ∈ (putD kvs k w).map (·.1) → j = k ∨ j ∈ kvs.map (·.1)
  | [], j, h => by simpa [putD] using h
  | p :: r, j, h => by
    unfold putD at h
    split at h
    · rename_i c
      rcases List.mem_cons.mp h with z | z
      · exact .inl z
      · exact .inr (List.mem_cons_of_mem _ z)
    · rcases List.mem_cons.mp h with z | z
      · exact .inr (z ▸ List.mem_cons_self)
      · rcases put_keys j z with y | y
        · exact .inl y
        · exact .inr (List.mem_cons_of_mem _ y)
theorem put_nd {k : Int} {w : W} : ∀ {kvs : List (Int × W)}, NdD kvs → NdD (putD kvs k w)
  | [], _ => by unfold NdD putD; simp
  | p :: r, h => by
    have h' : p.1 ∉ r.map (·.1) ∧ (r.map (·.1)).Nodup := List.nodup_cons.mp h
    unfold NdD putD
    split
    · rename_i c
      exact List.nodup_cons.mpr ⟨by rw [← c]; exact h'.1, h'.2⟩
    · rename_i c
      refine List.nodup_cons.mpr ⟨fun z => ?_, put_nd h'.2⟩
      rcases put_keys _ z with y | y
      · exact c y
      · exact h'.1 y
/-- with each key once, the kit's put is this one -/
theorem putZ_eq {k : Key} {v : V} : ∀ {zs : List (Key × V)}, (zs.map (·.1)).Nodup → putK zs k v = putZ zs k v
  | [], _ => rfl
  | p :: r, h => by
    have h' := List.nodup_cons.mp h
    have ih := putZ_eq (k := k) (v := v) h'.2
    unfold putZ
    by_cases c : p.1 = k
    · rw [if_pos c]
      unfold putK
      rw [if_pos (by simp [c]), List.map_cons, if_pos c]
      have hr : r.map (fun kv => if kv.1 = k then (kv.1, v) else kv) = r := by
        rw [← List.map_id' r] 
        refine (List.map_congr_left fun q hq => ?_).trans (by rw [List.map_id'])
        rw [if_neg (fun z => h'.1 (by show p.1 ∈ _; rw [c, ← z]; exact List.mem_map.mpr ⟨q, by simpa using hq, rfl⟩))]
      rw [hr, c]
    · rw [if_neg c, ← ih]
      unfold putK
      rw [List.any_cons, decide_eq_false c, Bool.false_or]
      split
      · rw [List.map_cons, if_neg c]
      · rfl
end
/-! the heap of dicts -/
section
variable {K : PySem.W.Frag} {m m' : List Addr} {H H' : Hp} {h : Hw} {a : Addr}
theorem RelH.dic (x : RelH K m H h) {n : Nat} {lk : Bool} {kvs : List (Int × W)} (e : h[n]? = some (.dic lk kvs)) {b : Addr} (q : m[n]? = some b) : ∃ us, Lk lk H b (.dK (zK (kvs.map (·.1)) us)) ∧ RepL K H m (kvs.map (·.2)) us ∧ NdD kvs := x.obj n b _ q e
theorem DGet.rk {H : Hp} {a : Addr} {kvs : List (Key × V)} {k : Key} (e : Rd H a (.dK kvs)) : DGet H a (kV k) (valV kvs k) := .inl ⟨kvs, k, e, rfl, rfl⟩
theorem RelH.growD (x : RelH K m H h) (hn : H a = none) : RelH K (m ++ [a]) (upd H a (.dK [])) (h ++ [.dic false []]) := by
  have g := Nx.grow x hn (o := .dK [])
  refine ⟨?_, by simp [x.len], fun n b u e1 e2 => ?_⟩
  · rw [List.nodup_append]
    refine ⟨x.nd, by simp, fun b hb c hc => ?_⟩
    rw [List.mem_singleton.mp hc]
    exact fun z => x.free hn (z ▸ hb)
  · by_cases hl : n < m.length
    · rw [List.getElem?_append_left hl] at e1
      rw [List.getElem?_append_left (by rw [← x.len]; exact hl)] at e2
      exact (x.obj n b u e1 e2).mono g (upd_ne fun z => x.free hn (z ▸ List.mem_of_getElem? e1))
    · rw [List.getElem?_append_right (by omega)] at e1
      rw [List.getElem?_append_right (by rw [← x.len]; omega)] at e2
      have e3 : n - m.length = 0 := by
        have := (List.getElem?_eq_some_iff.mp e1).1
        simp at this; omega
      have e4 : n - h.length = 0 := by rw [← x.len]; exact e3
      rw [e3] at e1; rw [e4] at e2
      simp at e1 e2
      subst e1; subst e2
      exact ⟨[], upd_same, .nil, List.nodup_nil⟩
theorem RelH.putD (x : RelH K m H h) {n : Nat} (e : m[n]? = some a) {ks : List (Key × V)} (hd : H a = some (.dK ks)) {kvs : List (Int × W)} {us : List V} (r : RepL K H m (kvs.map (·.2)) us) (nd : NdD kvs) : RelH K m (upd H a (.dK (zK (kvs.map (·.1)) us))) (h.set n (.dic false kvs)) := by
  have hm := List.mem_of_getElem? e
  refine ⟨x.nd, by simp [x.len], fun i b u e1 e2 => ?_⟩
  by_cases hi : i = n
  · subst hi
    have hl : i < h.length := by rw [← x.len]; exact (List.getElem?_eq_some_iff.mp e).1
    rw [List.getElem?_set_self hl] at e2
    rw [e] at e1
    cases e1; cases e2
    exact ⟨us, upd_same, r.mono (Nx.putD hm hd), nd⟩
  · rw [List.getElem?_set_ne (Ne.symm hi)] at e2
    exact (x.obj i b u e1 e2).mono (Nx.putD hm hd) (upd_ne fun z => hi (nodup_ix x.nd e1 (z ▸ e)))
end
section
variable {X : Cx} {cl : List Value} {Wx : WX} {pos : Pos} {o i e : Expr} {eo ei ee : En → Hw → Res W}
theorem s_dnew : PE X (.Dict [] [] pos) (tE (gx X cl) Wx fun ρ h => .ok (.ref h.length) (h ++ [.dic false []])) :=
  conseq pe_dnewK fun σ H Q ⟨m, ρ, h, rs, rh, z⟩ => fun p hp =>
    z (m ++ [p]) _ _ (Nx.grow rh hp) (rh.growD hp) (.ref' (by rw [← rh.len, List.getElem?_append_right (Nat.le_refl _)]; simp))
/-- what is looked up -/
theorem dgetS {G : GX} {m : List Addr} {H : Hp} {h : Hw} {wx wy : W} {x y : V} {Q : VK} {E : XK} (rh : RelH G.K m H h) (rx : Rep G.K H m wx x) (ry : Rep G.K H m wy y) (z : RV G (Rep G.K) m H (dgetV wx wy h) Q E) : ∃ a v, x = .ref a ∧ DGet H a y (some v) ∧ Q v H := by
  cases wx with
  | ref n =>
    cases wy with
    | int k =>
      obtain ⟨a, e1, rfl⟩ := rx.ref_of
      rw [ry.int_of]
      have z : RV G (Rep G.K) m H (match h[n]? with
        | some (.dic _ kvs) => (match lookD kvs k with | some w => .ok w h | none => .err)
        | _ => .err) Q E := z
      split at z
      · rename_i lk kvs hk
        obtain ⟨us, f, r, nd⟩ := rh.dic hk e1
        split at z
        · rename_i w hw
          obtain ⟨v, hv, rv⟩ := (look_rep r).1 w hw
          exact ⟨a, v, rfl, by rw [← hv]; exact DGet.rk (k := .inl k) f.rd, z.here rh rv⟩
        · exact z.no
      · exact z.no
    | _ => exact z.no
  | _ => exact z.no
theorem s_dget (hu : X.A.units + 1 < cLine) (ho : PE X o (tE (gx X cl) Wx eo)) (hi : PE X i (tE (gx X cl) Wx ei)) (hs : NoSl i) : PE X (.Subscript o i pos) (tE (gx X cl) Wx fun ρ h => (eo ρ h).bind fun x h => (ei ρ h).bind fun y h => dgetV x y h) :=
  conseq (pe_dget hu ho hi hs) fun σ H Q z => tR.bind z fun m ρ w v h H1 rs rh r z1 => tR.next rs rh z1 fun m2 w2 v2 h2 H2 n rs2 rh2 r2 z2 => dgetS rh2 (r.mono n) r2 z2
theorem zK_fst : ∀ {ks : List Int} {us : List V}, ks.length = us.length → (zK ks us).map (·.1) = ks.map Sum.inl
  | [], _, _ => rfl
  | k :: ks, v :: us, h => by rw [zK_cons, List.map_cons, List.map_cons, zK_fst (by simpa using h)]
  | _ :: _, [], h => by simp at h
theorem inl_nodup : ∀ {ks : List Int}, ks.Nodup → (ks.map (Sum.inl : Int → Key)).Nodup
  | [], _ => List.nodup_nil
  | k :: ks, h => by
    have h' := List.nodup_cons.mp h
    rw [List.map_cons]
    refine List.nodup_cons.mpr ⟨fun z => ?_, inl_nodup h'.2⟩
    obtain ⟨j, hj, e⟩ := List.mem_map.mp z
    cases e
    exact h'.1 hj
/-- what is put -/
theorem dputS {G : GX} {m : List Addr} {H : Hp} {h h' : Hw} {wx wy wv : W} {x y v : V} {Q : Hp → Prop} (rh : RelH G.K m H h) (rx : Rep G.K H m wx x) (ry : Rep G.K H m wy y) (rv : Rep G.K H m wv v) (e : dputV wx wy wv h = some h') (z : ∀ H', Nx m H m H' → RelH G.K m H' h' → Q H') : ∃ a H4, x = .ref a ∧ DPut H a y v H4 ∧ Q H4 := by
  cases wx with
  | ref n =>
    cases wy with
    | int k =>
      obtain ⟨a, e1, rfl⟩ := rx.ref_of
      rw [ry.int_of]
      have e : (match h[n]? with
        | some (.dic false kvs) => if kvs.length < lim then some (h.set n (.dic false (putD kvs k wv))) else none
        | _ => none) = some h' := e
      split at e
      · rename_i kvs hk
        obtain ⟨us, f, r, nd⟩ := rh.dic hk e1
        split at e
        · rename_i hl
          cases e
          have ll : (kvs.map (·.1)).length = us.length := by rw [List.length_map, ← r.len, List.length_map]
          obtain ⟨us', ez, r'⟩ := put_rep (k := k) rv r
          have ep : putK (zK (kvs.map (·.1)) us) (.inl k) v = zK ((putD kvs k wv).map (·.1)) us' := by
            rw [putZ_eq (by rw [zK_fst ll]; exact inl_nodup nd), ez]
          refine ⟨a, _, rfl, DPut.k (k := .inl k) f (by rw [zK_len ll, List.length_map, ← lim_eq]; exact hl), ?_⟩
          rw [ep]
          exact z _ (Nx.putD (List.mem_of_getElem? e1) f) (rh.putD e1 f r' (put_nd nd))
        · cases e
      · cases e
    | _ => cases e
  | _ => cases e
theorem ss_dset {v : Expr} {ev : En → Hw → Res W} {p2 : Pos} (hu : X.A.units + 1 < cLine) (ho : PE X o (tE (gx X cl) Wx eo)) (hi : PE X i (tE (gx X cl) Wx ei)) (hv : PE X v (tE (gx X cl) Wx ev)) (hs : swapsWith v (some (.Subscript o i p2)) pos.line X.env = pure false) :
    PS X (.Assign [.Subscript o i p2] v pos) (tS (gx X cl) Wx fun ρ h => (ev ρ h).st ρ fun v h => (eo ρ h).st ρ fun x h => (ei ρ h).st ρ fun y h => match dputV x y v h with
      | some h' => .ok (.next, ρ) h'
      | none => .err) :=
  conseqS (ps_dput hu ho hi hv hs) fun D σ H z => tS.st z fun m1 ρ a b h1 H1 rs rh r z1 => RSt.go rs rh z1 fun m2 a2 b2 h2 H2 n2 rs2 rh2 r2 z2 => RSt.go rs2 rh2 z2 fun m3 a3 b3 h3 H3 n3 rs3 rh3 r3 z3 => by
    try dsimp only at z3
    split at z3
    · rename_i h' e1
      exact dputS rh3 (r2.mono n3) r3 ((r.mono n2).mono n3) e1 fun H' n' rh' => z3 m3 H' n' rh' σ (rs3.mono n')
    · exact z3.no
/-- k in d -/
theorem dinS {G : GX} {m : List Addr} {H : Hp} {h : Hw} {wx wy : W} {x y : V} {b : Bool} {Q : VK} {E : XK} (rh : RelH G.K m H h) (rx : Rep G.K H m wx x) (ry : Rep G.K H m wy y) (z : RV G (Rep G.K) m H (dinV b wy wx h) Q E) : ∃ a o, x = .ref a ∧ DGet H a y o ∧ Q (.bl (o.isSome == b)) H := by
  cases wx with
  | ref n =>
    cases wy with
    | int k =>
      obtain ⟨a, e1, rfl⟩ := rx.ref_of
      rw [ry.int_of]
      have z : RV G (Rep G.K) m H (match h[n]? with
        | some (.dic _ kvs) => .ok (.bl ((lookD kvs k).isSome == b)) h
        | _ => .err) Q E := z
      split at z
      · rename_i lk kvs hk
        obtain ⟨us, f, r, nd⟩ := rh.dic hk e1
        have lr := look_rep (k := k) r
        have eo : (valV (zK (kvs.map (·.1)) us) (.inl k : Key)).isSome = (lookD kvs k).isSome := by
          cases hq : lookD kvs k with
          | none => rw [lr.2 hq]; rfl
          | some w =>
            obtain ⟨v, hv, _⟩ := lr.1 w hq
            rw [hv]; rfl
        exact ⟨a, _, rfl, DGet.rk (k := .inl k) f.rd, by rw [eo]; exact z.here rh .bl'⟩
      · exact z.no
    | _ => exact z.no
  | _ => exact z.no
theorem s_din (hu : X.A.units + 1 < cLine) (hi : PE X i (tE (gx X cl) Wx ei)) (ho : PE X o (tE (gx X cl) Wx eo)) (hm : behindInMarks .In o = false) : PE X (.Compare i [.In] [o] pos) (tE (gx X cl) Wx fun ρ h => (ei ρ h).bind fun y h => (eo ρ h).bind fun x h => dinV true y x h) :=
  conseq (pe_cmp (pc_din hu hi ho) hm) fun σ H Q z => tR.bind z fun m ρ w v h H1 rs rh r z1 => tR.next rs rh z1 fun m2 w2 v2 h2 H2 n rs2 rh2 r2 z2 => by
    obtain ⟨a, o, e1, e2, q⟩ := dinS rh2 r2 (r.mono n) z2
    exact ⟨a, o, e1, e2, by simpa using q⟩
theorem s_dnin (hu : X.A.units + 1 < cLine) (hi : PE X i (tE (gx X cl) Wx ei)) (ho : PE X o (tE (gx X cl) Wx eo)) (hm : behindInMarks .NotIn o = false) : PE X (.Compare i [.NotIn] [o] pos) (tE (gx X cl) Wx fun ρ h => (ei ρ h).bind fun y h => (eo ρ h).bind fun x h => dinV false y x h) :=
  conseq (pe_cmp (pc_dnotin hu hi ho) hm) fun σ H Q z => tR.bind z fun m ρ w v h H1 rs rh r z1 => tR.next rs rh z1 fun m2 w2 v2 h2 H2 n rs2 rh2 r2 z2 => by
    obtain ⟨a, o, e1, e2, q⟩ := dinS rh2 r2 (r.mono n) z2
    exact ⟨a, o, e1, e2, by simpa using q⟩
end
end Ev

set_option Elab.async false
set_option linter.all false
set_option maxRecDepth 100000
/-! EvK2: d.get(k, z). -/
namespace Ev
open PySem PySem.Spec PyProof.Rows L2
section
variable {X : Cx} {cl : List Value} {Wx : WX} {pos : Pos} {o i e : Expr} {eo ei ee : En → Hw → Res W}
theorem dgtS {G : GX} {m : List Addr} {H : Hp} {h : Hw} {n : Nat} {a : Addr} {wy wz : W} {y z : V} {Q : VK} {E : XK} (rh : RelH G.K m H h) (rx : Rep G.K H m (.ref n) (.ref a)) (ry : Rep G.K H m wy y) (rz : Rep G.K H m wz z) (zz : RV G (Rep G.K) m H (dgtV (.ref n) wy wz h) Q E) : ∃ o, DGet H a y o ∧ Q (o.getD z) H := by
  cases wy with
  | int k =>
    obtain ⟨b, e1, e2⟩ := rx.ref_of
    cases e2
    rw [ry.int_of]
    have zz : RV G (Rep G.K) m H (match h[n]? with
      | some (.dic _ kvs) => (match lookD kvs k with | some w => .ok w h | none => .ok wz h)
      | _ => .err) Q E := zz
    split at zz
    · rename_i lk kvs hk
      obtain ⟨us, f, r, nd⟩ := rh.dic hk e1
      have lr := look_rep (k := k) r
      split at zz
      · rename_i w hw
        obtain ⟨v, hv, rv⟩ := lr.1 w hw
        exact ⟨some v, by rw [← hv]; exact DGet.rk (k := .inl k) f.rd, zz.here rh rv⟩
      · rename_i hw
        exact ⟨none, by rw [← lr.2 hw]; exact DGet.rk (k := .inl k) f.rd, zz.here rh rz⟩
    · exact zz.no
  | _ => exact zz.no
theorem s_dgt {x : Expr} {ex : En → Hw → Res W} {apos : Pos} (hu : X.A.units + 1 < cLine) (ho : PE X o (tE (gx X cl) Wx eo)) (hi : PE X i (tE (gx X cl) Wx ei)) (hx : PE X x (tE (gx X cl) Wx ex)) (m2 : M2 X o "get" apos i x pos) :
    PE X (.Call (.Attribute o "get" apos) [i, x] [] pos) (tE (gx X cl) Wx fun ρ h => (eo ρ h).bind fun a h => match a with
      | .ref n => (match h[n]? with
        | some (.dic _ _) => (ei ρ h).bind fun y h => (ex ρ h).bind fun z h => dgtV (.ref n) y z h
        | _ => .err)
      | _ => .err) :=
  conseq (pe_dget2 hu ho hi hx m2) fun σ H Q z => tR.bind z fun m ρ w v h H1 rs rh r z1 => by
    cases w with
    | ref n =>
      obtain ⟨a, e1, rfl⟩ := r.ref_of
      try dsimp only at z1
      split at z1
      · rename_i lk kvs hk
        obtain ⟨us, f, _, _⟩ := rh.dic hk e1
        exact ⟨a, rfl, .inl ⟨_, f.rd⟩, tR.next rs rh z1 fun m2 w2 v2 h2 H2 n rs2 rh2 r2 z2 => tR.next rs2 rh2 z2 fun m3 w3 v3 h3 H3 n3 rs3 rh3 r3 z3 => dgtS rh3 ((r.mono n).mono n3) (r2.mono n3) r3 z3⟩
      · exact z1.no
    | _ => exact z1.no
theorem dget_of {G : GX} {m : List Addr} {H : Hp} {h : Hw} {wx wy : W} {x y : V} {q : Res W} (hq : dgetV wx wy h = q) (rh : RelH G.K m H h) (rx : Rep G.K H m wx x) (ry : Rep G.K H m wy y) : q = .err ∨ ∃ w, q = .ok w h ∧ ∃ a v, x = .ref a ∧ DGet H a y (some v) ∧ Rep G.K H m w v := by
  subst hq
  cases wx with
  | ref n =>
    cases wy with
    | int k =>
      obtain ⟨a, e1, rfl⟩ := rx.ref_of
      rw [ry.int_of]
      unfold dgetV
      dsimp only
      split
      · rename_i lk kvs hk
        obtain ⟨us, f, r, nd⟩ := rh.dic hk e1
        split
        · rename_i w hw
          obtain ⟨v, hv, rv⟩ := (look_rep r).1 w hw
          exact .inr ⟨w, rfl, a, v, rfl, by rw [← hv]; exact DGet.rk (k := .inl k) f.rd, rv⟩
        · exact .inl rfl
      · exact .inl rfl
    | _ => exact .inl rfl
  | _ => exact .inl rfl
theorem ss_daug {p : Bop} {op : Operator} {g : Int → Int → Int} {rd : V → V → Hp → VK → Prop} {p2 : Pos} (hu : X.A.units + 1 < cLine) (hop : InOp X op rd) (hr : ∀ a b H Q, Q (V.int (g a b)) H → rd (.int a) (.int b) H Q) (ho : PE X o (tE (gx X cl) Wx eo)) (hi : PE X i (tE (gx X cl) Wx ei)) (he : PE X e (tE (gx X cl) Wx ee)) (hg : ∀ w v z, augO p w v = some z → ∃ a b, w = .int a ∧ v = .int b ∧ z = .int (g a b))
    (ha : ∀ ov iv new, augStore i ov iv new = (do holding [new, ov, iv] (setItem ov iv new); release [new, ov, iv] []; pure .next)) :
    PS X (.AugAssign (.Subscript o i p2) op e pos) (tS (gx X cl) Wx fun ρ h => (eo ρ h).st ρ fun x h => (ei ρ h).st ρ fun y h => (dgetV x y h).st ρ fun w h => (ee ρ h).st ρ fun v h => match augO p w v with
      | some z => (match dputV x y z h with
        | some h' => .ok (.next, ρ) h'
        | none => .err)
      | none => .err) :=
  conseqS (ps_daug hu ho hi he hop ha) fun D σ H z => tS.st z fun m1 ρ a b h1 H1 rs rh r z1 => RSt.go rs rh z1 fun m2 a2 b2 h2 H2 n2 rs2 rh2 r2 z2 => by
    generalize hi : dgetV _ _ _ = q at z2
    rcases dget_of hi rh2 (r.mono n2) r2 with rfl | ⟨w, rfl, p, v, rfl, dg, rv⟩
    · exact z2.no
    · refine ⟨p, v, rfl, dg, RSt.go rs2 rh2 z2 fun m3 a3 b3 h3 H3 n3 rs3 rh3 r3 z3 => ?_⟩
      try dsimp only at z3
      split at z3
      · rename_i zw hz
        obtain ⟨c1, c2, rfl, rfl, rfl⟩ := hg _ _ _ hz
        rw [rv.int_of, r3.int_of]
        refine hr _ _ _ _ ?_
        split at z3
        · rename_i h' e1
          obtain ⟨p', H5, e2, dp, q⟩ := dputS rh3 ((r.mono n2).mono n3) (r2.mono n3) .int' e1 fun H' n' rh' => z3 m3 H' n' rh' σ (rs3.mono n')
          cases e2
          exact ⟨H5, dp, q⟩
        · exact z3.no
      · exact z3.no
end
end Ev

set_option Elab.async false
set_option linter.all false
set_option maxRecDepth 100000
/-! EvL: dicts made of pairs, copied, displayed, by comprehensions; setdefault, sorted(d); reversed. -/
namespace Ev
open PySem PySem.Spec PyProof.Rows L2
/-- a tuple whose object is known -/
def KnT (K : PySem.W.Frag) (H : Hp) (a : Addr) (xs : List V) : Prop := (∃ o, H a = some (.frz o (.tup xs)) ∧ o.dict = none) ∨ ConT K a xs
theorem StT.kn {K : PySem.W.Frag} {H : Hp} {m : List Addr} {a : Addr} {xs : List V} (s : StT K H m a xs) : KnT K H a xs := s.elim (fun x => .inl x.1) .inr
section
variable {X : Cx} {pins : List (Addr × Obj)} {σ : L2.St} {H : Hp} {s : Shared}
theorem kn_at {a : Addr} {vs : List V} (I : Inv X pins σ H s) (k : KnT X.K H a vs) : ∃ its : List Value, Vals vs its ∧ PlainSeq "tuple" s.heap a its.toArray ∧ vs.length ≤ sizeLine := by
  rcases k with ⟨o, e, hd⟩ | ⟨o, its, n, e, hc, hd, hs, hz, r⟩
  · obtain ⟨g, z, its, r, o', g', hc, n, ht⟩ := I.hok a _ e
    rw [g] at g'; cases g'
    exact ⟨its, r, ⟨o, n, g, hc, hd, ht⟩, z⟩
  · refine ⟨its.toList, r, ⟨o, n, I.kIn a o e, hc, hd, by rw [Array.toArray_toList]; exact hs⟩, ?_⟩
    have := r.length
    simp only [Array.length_toList] at this
    omega
/-- the pairs of a row, as the machine has them -/
theorem pairs_at (I : Inv X pins σ H s) : ∀ {ps : List Addr} {kvs : List (Key × V)}, Paired (fun p kv => SqT X.K H p [kV kv.1, kv.2]) ps kvs →
    ∃ (uv : List (Value × Value)) (prs : List (Key × Value)), KV kvs prs ∧ uv.length = ps.length ∧ prs.length = ps.length ∧
      ∀ (j : Nat) (k v : Value), uv[j]? = some (k, v) → (∃ b, ps[j]? = some b ∧ PairAt s.heap b k v) ∧ ∃ q, prs[j]? = some (q, v) ∧ (mixKind X.prog X.w).is q k = true
  | _, _, .nil => ⟨[], [], .nil, rfl, rfl, fun j k v e => by simp at e⟩
  | _, _, .cons (a := p) (b := kv) h t => by
    obtain ⟨uv, prs, r, l1, l2, f⟩ := pairs_at I t
    obtain ⟨its, rv, ht, _⟩ := I.tuple h
    obtain ⟨u, y, ei, ru, ry⟩ := vals2 rv
    subst ei
    refine ⟨(u, y) :: uv, (kv.1, y) :: prs, .cons ⟨rfl, ry⟩ r, by simp [l1], by simp [l2], fun j k v e => ?_⟩
    cases j with
    | zero =>
      cases (show some (u, y) = some (k, v) from e)
      exact ⟨⟨p, rfl, .inl ht⟩, kv.1, rfl, kV_is ru⟩
    | succ j => exact f j k v (by simpa using e)
/-- dict(xs), xs a list or a known tuple of pairs -/
def rDmk (K : PySem.W.Frag) : List V → Hp → VK → Prop := fun xs H Q => ∃ (a : Addr) (ps : List Addr) (kvs : List (Key × V)), xs = [.ref a] ∧ (SqL K H a (ps.map V.ref) ∨ KnT K H a (ps.map V.ref)) ∧ Paired (fun p kv => SqT K H p [kV kv.1, kv.2]) ps kvs ∧
  ∀ p, H p = none → Q (.ref p) (upd H p (.dK (mergeK [] kvs)))
theorem cr_dmk (hc : X.calm = true) : CallR X (.type "dict") (rDmk X.K) := by
  intro pins s σ H xs us Q I r ⟨a, ps, kvs, ex, hq, hp, q⟩
  rcases hq with hq | hq
  · exact L2.call_dictP hc pins s σ H xs us Q I r ⟨a, ps, kvs, ex, hq, hp, q⟩
  · subst ex
    obtain ⟨u, eu, rx⟩ := vals1 r
    subst eu
    cases rx
    obtain ⟨its, rv, pl, hz⟩ := kn_at I hq
    have ei := refs_at rv
    subst ei
    rw [List.length_map] at hz
    obtain ⟨uv, prs, rel, l1, l2, f⟩ := pairs_at I hp
    refine PySem.call_dict_pairs (knd := mixKind X.prog X.w) (kvs := prs) (PairArg.tuple a (ps.map Value.ref).toArray (fun j => ps.getD j 0) uv) (I.ok.hd hc) ⟨pl, by simp [l1], fun j k v e => ?_⟩ ⟨by rw [l2, l1], fun j k v e => ?_⟩ (by rw [l1]; exact hz) fun h' tk hd' hk => ?_
    · obtain ⟨⟨b, e1, e2⟩, _⟩ := f j k v e
      have e3 : ps.getD j 0 = b := by rw [List.getD_eq_getElem?_getD, e1]; rfl
      show (List.map Value.ref ps).toArray[j]? = some (.ref (ps.getD j 0)) ∧ PairAt s.heap (ps.getD j 0) k v
      rw [e3]
      exact ⟨by simp [e1], e2⟩
    · exact (f j k v e).2
    · have hm : (s.heap.objs.size == sysModules) = false := beq_eq_false_iff_ne.mpr (Nat.ne_of_gt I.big)
      have hlen : (mergeK [] kvs).length ≤ sizeLine := by
        have z := length_mergeK kvs []
        have z2 := rel.length
        rw [List.length_nil, Nat.zero_add] at z
        omega
      exact ⟨.ref s.heap.objs.size, upd H s.heap.objs.size (.dK (mergeK [] kvs)), I.laid (t' := tk) (fun b o e => hk b o (by simp) e) (Nat.le_refl _) (show ObjOk X.prog X.w _ _ _ (.dK (mergeK [] kvs)) from ⟨hlen, hm, merged [] prs, KV.merge rel .nil, hd'⟩), rfl, q _ (I.hok.fresh (Nat.le_refl _))⟩
end
section
variable {K : PySem.W.Frag} {H : Hp} {m : List Addr} {h : Hw}
theorem prs_rep : ∀ {ws : List W} {vs : List V} {kvs : List (Int × W)}, RepL K H m ws vs → toPrs ws = some kvs →
    ∃ (ps : List Addr) (us : List V), vs = ps.map V.ref ∧ RepL K H m (kvs.map (·.2)) us ∧ Paired (fun p kv => SqT K H p [kV kv.1, kv.2]) ps (zK (kvs.map (·.1)) us)
  | [], _, _, r, e => by
    unfold RepL at r; subst r
    cases e
    exact ⟨[], [], rfl, .nil, .nil⟩
  | w :: ws, _, kvs, r, e => by
    obtain ⟨v, q, rfl, r1, r2⟩ := r.uncons
    unfold toPrs at e
    split at e
    · rename_i heq; cases heq
    · rename_i k w' r' heq
      cases heq
      cases e1 : toPrs ws with
      | none => rw [e1] at e; cases e
      | some kvs' =>
        rw [e1] at e; cases e
        obtain ⟨ps, us, rfl, ru, rp⟩ := prs_rep r2 e1
        unfold Rep at r1
        obtain ⟨a, vs2, rfl, st, rl⟩ := r1
        obtain ⟨x, y, rfl, rx, ry⟩ := rl.two
        unfold Rep at rx; subst rx
        exact ⟨a :: ps, y :: us, rfl, .cons ry ru, .cons st.sq rp⟩
    · cases e
theorem mrg_rep : ∀ {kvs acc : List (Int × W)} {us ua : List V}, RepL K H m (kvs.map (·.2)) us → RepL K H m (acc.map (·.2)) ua → NdD acc →
    ∃ us', mergeK (zK (acc.map (·.1)) ua) (zK (kvs.map (·.1)) us) = zK ((mrgD acc kvs).map (·.1)) us' ∧ RepL K H m ((mrgD acc kvs).map (·.2)) us' ∧ NdD (mrgD acc kvs)
  | [], acc, us, ua, r, ra, nd => ⟨ua, by unfold mrgD; rfl, by unfold mrgD; exact ra, by unfold mrgD; exact nd⟩
  | p :: r, acc, _, ua, h, ra, nd => by
    obtain ⟨u, us, rfl, h1, h2⟩ := RepL.uncons (show RepL K H m (p.2 :: r.map (·.2)) _ from h)
    obtain ⟨ua', e1, ra'⟩ := put_rep (k := p.1) h1 ra
    have ll : (acc.map (·.1)).length = ua.length := by rw [List.length_map, ← ra.len, List.length_map]
    have e2 : putK (zK (acc.map (·.1)) ua) (.inl p.1) u = zK ((putD acc p.1 p.2).map (·.1)) ua' := by
      rw [putZ_eq (by rw [zK_fst ll]; exact inl_nodup nd), e1]
    obtain ⟨us', e3, r3, n3⟩ := mrg_rep h2 ra' (put_nd (k := p.1) (w := p.2) nd)
    refine ⟨us', ?_, by unfold mrgD; exact r3, by unfold mrgD; exact n3⟩
    unfold mrgD
    rw [← e3]
    show mergeK _ ((.inl p.1, u) :: zK (r.map (·.1)) us) = _
    unfold mergeK
    rw [List.foldl_cons, e2]
theorem RelH.growDk {a : Addr} (x : RelH K m H h) (hn : H a = none) {kvs : List (Int × W)} {us : List V} (r : RepL K H m (kvs.map (·.2)) us) (nd : NdD kvs) : RelH K (m ++ [a]) (upd H a (.dK (zK (kvs.map (·.1)) us))) (h ++ [.dic false kvs]) := by
  have g := Nx.grow x hn (o := .dK (zK (kvs.map (·.1)) us))
  refine ⟨?_, by simp [x.len], fun n b u e1 e2 => ?_⟩
  · rw [List.nodup_append]
    refine ⟨x.nd, by simp, fun b hb c hc => ?_⟩
    rw [List.mem_singleton.mp hc]
    exact fun z => x.free hn (z ▸ hb)
  · by_cases hl : n < m.length
    · rw [List.getElem?_append_left hl] at e1
      rw [List.getElem?_append_left (by rw [← x.len]; exact hl)] at e2
      exact (x.obj n b u e1 e2).mono g (upd_ne fun z => x.free hn (z ▸ List.mem_of_getElem? e1))
    · rw [List.getElem?_append_right (by omega)] at e1
      rw [List.getElem?_append_right (by rw [← x.len]; omega)] at e2
      have e3 : n - m.length = 0 := by
        have := (List.getElem?_eq_some_iff.mp e1).1
        simp at this; omega
      have e4 : n - h.length = 0 := by rw [← x.len]; exact e3
      rw [e3] at e1; rw [e4] at e2
      simp at e1 e2
      subst e1; subst e2
      exact ⟨us, upd_same, r.mono g, nd⟩
theorem last_ref {a : Addr} (x : RelH K m H h) {o : HO} : Rep K (upd H a o) (m ++ [a]) (.ref h.length) (.ref a) := by
  unfold Rep
  exact ⟨a, by rw [← x.len, List.getElem?_append_right (Nat.le_refl _)]; simp, rfl⟩
end
theorem dmkS {G : GX} : LcS G (rDmk G.K) dmkV := by
  intro m H h a ws vs Q E rh r s z
  unfold dmkV at z
  split at z
  · rename_i kvs e
    obtain ⟨ps, us, rfl, ru, rp⟩ := prs_rep r e
    obtain ⟨us', e2, r2, nd⟩ := mrg_rep (acc := []) (ua := []) ru .nil List.nodup_nil
    refine ⟨a, ps, _, rfl, s.elim (fun x => .inr x.kn) .inl, rp, fun p hp => ?_⟩
    have e2' : mergeK [] (zK (kvs.map (·.1)) us) = zK ((mrgD [] kvs).map (·.1)) us' := e2
    rw [e2']
    exact z (m ++ [p]) _ _ (Nx.grow rh hp) (rh.growDk hp r2 nd) (last_ref rh)
  · exact z.no
section
variable {X : Cx} {cl : List Value} {Wx : WX} {pos : Pos} {o i e : Expr} {eo ei ee : En → Hw → Res W}
def rDcp : List V → Hp → VK → Prop := fun xs H Q => ∃ (a : Addr) (kvs : List (Key × V)), xs = [.ref a] ∧ Rd H a (.dK kvs) ∧ ∀ p, H p = none → Q (.ref p) (upd H p (.dK kvs))
theorem cr_dcp : CallR X (.type "dict") rDcp := by
  intro pins s σ H xs us Q I r ⟨a, kvs, ex, hd, q⟩
  subst ex
  obtain ⟨u, eu, rx⟩ := vals1 r
  subst eu
  cases rx
  exact d_copyOf I hd fun p s' hp I' => ⟨.ref p, _, I', rfl, q p hp⟩
theorem s_dcp {x : Str} {p : Pos} (hx : x = "dict") (hg : Gl X x) (hm : X.mg x = none) (ha : PE X e (tE (gx X cl) Wx ee)) (hs : starEach [e] X.env = [(false, eval e X.env)]) :
    PE X (.Call (.Name x p) [e] [] pos) (tE (gx X cl) Wx fun ρ h => (ee ρ h).bind fun x h => dcpV x h) := by
  subst hx
  refine conseq (pe_callTy cr_dcp hg hm (by decide +kernel) (pa_cons ha pa_nil hs) (by decide +kernel) (by decide +kernel) hs rfl) fun σ H Q z => tR.bind z fun m ρ w v h H1 rs rh r z1 => ?_
  cases w with
  | ref n =>
    obtain ⟨a, e1, rfl⟩ := r.ref_of
    have z1 : RV (gx X cl) (Rep (gx X cl).K) m H1 (match h[n]? with
      | some (.dic _ kvs) => .ok (.ref h.length) (h ++ [.dic false kvs])
      | _ => .err) Q _ := z1
    split at z1
    · rename_i lk kvs hk
      obtain ⟨us, f, ru, nd⟩ := rh.dic hk e1
      exact ⟨a, _, rfl, f.rd, fun p hp => z1 (m ++ [p]) _ _ (Nx.grow rh hp) (rh.growDk hp ru nd) (last_ref rh)⟩
    · exact z1.no
  | _ => exact z1.no
def rDsr : List V → Hp → VK → Prop := fun xs H Q => ∃ (a : Addr) (kvs : List (Key × V)) (ks : List Int), xs = [.ref a] ∧ Rd H a (.dK kvs) ∧ kvs.map (·.1) = ks.map Sum.inl ∧ ks.length < 64 ∧
    ∀ (ys : List Int) (p : Addr), ys.Perm ks → ys.Pairwise (· ≤ ·) → H p = none → Q (.ref p) (upd H p (.lst (ys.map V.int)))
theorem s_dsr {x : Str} {p : Pos} (hc : X.calm = true) (hx : x = "sorted") (hg : Gl X x) (hm : X.mg x = none) (ha : PE X e (tE (gx X cl) Wx ee)) (hs : starEach [e] X.env = [(false, eval e X.env)]) :
    PE X (.Call (.Name x p) [e] [] pos) (tE (gx X cl) Wx fun ρ h => (ee ρ h).bind fun x h => dsrV x h) := by
  subst hx
  refine conseq (pe_callB (r := rDsr) (call_sortedDI hc) hg hm (by decide +kernel) (pa_cons ha pa_nil hs) (by decide +kernel) (by decide +kernel) hs rfl) fun σ H Q z => tR.bind z fun m ρ w v h H1 rs rh r z1 => ?_
  cases w with
  | ref n =>
    obtain ⟨a, e1, rfl⟩ := r.ref_of
    have z1 : RV (gx X cl) (Rep (gx X cl).K) m H1 (match h[n]? with
      | some (.dic _ kvs) => if kvs.length < 64 then .ok (.ref h.length) (h ++ [.lst ((isort (kvs.map (·.1))).map .int)]) else .err
      | _ => .err) Q _ := z1
    split at z1
    · rename_i lk kvs hk
      obtain ⟨us, f, ru, nd⟩ := rh.dic hk e1
      split at z1
      · rename_i hl
        refine ⟨a, _, kvs.map (·.1), rfl, f.rd, zK_fst (by rw [List.length_map, ← ru.len, List.length_map]), by rw [List.length_map]; exact hl, fun ys p p1 p2 hp => ?_⟩
        rw [isort_uniq p1 p2]
        exact z1.newL rh (repL_ints _) p hp
      · exact z1.no
    · exact z1.no
  | _ => exact z1.no
/-- what is put, with its key -/
theorem dputK {G : GX} {m : List Addr} {H : Hp} {h h' : Hw} {n : Nat} {a : Addr} {wy wv : W} {y v : V} (rh : RelH G.K m H h) (e1 : m[n]? = some a) (ry : Rep G.K H m wy y) (rv : Rep G.K H m wv v) (e : dputV (.ref n) wy wv h = some h') :
    ∃ kvs k, y = kV k ∧ H a = some (.dK kvs) ∧ kvs.length < sizeLine ∧ Nx m H m (upd H a (.dK (putK kvs k v))) ∧ RelH G.K m (upd H a (.dK (putK kvs k v))) h' := by
  cases wy with
  | int k =>
    rw [ry.int_of]
    have e : (match h[n]? with
      | some (.dic false kvs) => if kvs.length < lim then some (h.set n (.dic false (putD kvs k wv))) else none
      | _ => none) = some h' := e
    split at e
    · rename_i kvs hk
      obtain ⟨us, f, r, nd⟩ := rh.dic hk e1
      have f : H a = some _ := f
      split at e
      · rename_i hl
        cases e
        have ll : (kvs.map (·.1)).length = us.length := by rw [List.length_map, ← r.len, List.length_map]
        obtain ⟨us', ez, r'⟩ := put_rep (k := k) rv r
        have ep : putK (zK (kvs.map (·.1)) us) (.inl k) v = zK ((putD kvs k wv).map (·.1)) us' := by
          rw [putZ_eq (by rw [zK_fst ll]; exact inl_nodup nd), ez]
        refine ⟨_, .inl k, rfl, f, by rw [zK_len ll, List.length_map, ← lim_eq]; exact hl, ?_⟩
        rw [ep]
        exact ⟨Nx.putD (List.mem_of_getElem? e1) f, rh.putD e1 f r' (put_nd nd)⟩
      · cases e
    · cases e
  | _ => cases e
theorem s_dst {x : Expr} {ex : En → Hw → Res W} {apos : Pos} (ho : PE X o (tE (gx X cl) Wx eo)) (hi : PE X i (tE (gx X cl) Wx ei)) (hx : PE X x (tE (gx X cl) Wx ex)) (m2 : M2 X o "setdefault" apos i x pos) :
    PE X (.Call (.Attribute o "setdefault" apos) [i, x] [] pos) (tE (gx X cl) Wx fun ρ h => (eo ρ h).bind fun a h => match a with
      | .ref n => (match h[n]? with
        | some (.dic _ _) => (ei ρ h).bind fun y h => (ex ρ h).bind fun z h => dstV (.ref n) y z h
        | _ => .err)
      | _ => .err) :=
  conseq (pe_dsetd ho hi hx m2) fun σ H Q z => tR.bind z fun m ρ w v h H1 rs rh r z1 => by
    cases w with
    | ref n =>
      obtain ⟨a, e1, rfl⟩ := r.ref_of
      try dsimp only at z1
      split at z1
      · rename_i lk kvs hk
        obtain ⟨us, f, _, _⟩ := rh.dic hk e1
        refine ⟨a, rfl, .inl ⟨_, f.rd⟩, tR.next rs rh z1 fun m2 w2 v2 h2 H2 n2 rs2 rh2 r2 z2 => tR.next rs2 rh2 z2 fun m3 w3 v3 h3 H3 n3 rs3 rh3 r3 z3 => ?_⟩
        have e3 := n3.get (n2.get e1)
        cases w2 with
        | int k =>
          have r2' := r2.mono n3
          rw [r2'.int_of]
          have z3 : RV (gx X cl) (Rep (gx X cl).K) m3 H3 (match h3[n]? with
            | some (.dic false kvs) => if kvs.length < lim then (match lookD kvs k with
              | some w => .ok w h3
              | none => .ok w3 (h3.set n (.dic false (putD kvs k w3)))) else .err
            | _ => .err) Q _ := z3
          split at z3
          · rename_i kvs hk
            split at z3
            · rename_i hl
              have e : dputV (.ref n) (.int k) w3 h3 = some (h3.set n (.dic false (putD kvs k w3))) := by
                unfold dputV
                dsimp only
                rw [hk]
                dsimp only
                rw [if_pos hl]
              obtain ⟨us, f, ru, nd⟩ := rh3.dic hk e3
              have f : H3 a = some _ := f
              have lr := look_rep (k := k) ru
              obtain ⟨kvs2, k2, q1, q2, q3, q4, q5⟩ := dputK rh3 e3 r2' r3 e
              rw [r2'.int_of] at q1
              have q1 := kV_inj (a := .inl k) q1
              subst q1
              rw [f] at q2; cases q2
              refine ⟨_, .inl k, f, rfl, q3, fun v hv => ?_, fun hv => ?_⟩
              · cases hq : lookD kvs k with
                | none => rw [lr.2 hq] at hv; cases hv
                | some w =>
                  rw [hq] at z3
                  obtain ⟨v', hv', rv⟩ := lr.1 w hq
                  rw [hv'] at hv; cases hv
                  exact z3.here rh3 rv
              · cases hq : lookD kvs k with
                | some w =>
                  obtain ⟨v', hv', rv⟩ := lr.1 w hq
                  rw [hv'] at hv; cases hv
                | none =>
                  rw [hq] at z3
                  exact z3 m3 _ _ q4 q5 (r3.mono q4)
            · exact z3.no
          · exact z3.no
        | _ => exact z3.no
      · exact z1.no
    | _ => exact z1.no
end
end Ev

set_option Elab.async false
set_option linter.all false
set_option maxRecDepth 100000
/-! EvL2: dict comprehensions, displays; reversed; t.index(k); chains; max(d.values()). -/
namespace Ev
open PySem PySem.Spec PyProof.Rows L2
section
variable {G : GX} {Wx : WX} {σ : L2.St} {H : Hp} {Q : VK}
theorem tDc_of {ei : En → Hw → Res (List W × Gu)} {et : En → Hw → Res Bool} {ek ev : En → Hw → Res W} {ig : IG} {own : List Nat}
    (hsl : ∀ i ∈ slots ig, i ∈ own)
    (z : tE G Wx (fun ρ h => (ei ρ h).bind fun q h => (compD ig q.2 et ek ev own h.length ρ q.1 (h ++ [.dic false []])).bind fun _ h' => .ok (.ref h.length) h') σ H Q) :
    tDc (tI G ig Wx ei) (gG G.K ig) (tT G noX et) (tE G noX ek) (tE G noX ev) own σ H Q :=
  tR.bind z fun m0 ρ q J h0 H0 rs rh it z1 => fun D hD => by
    have ne : compD ig q.2 et ek ev own h0.length ρ q.1 (h0 ++ [.dic false []]) ≠ .err := fun e => by rw [e] at z1; exact z1.no
    generalize hfull : compD ig q.2 et ek ev own h0.length ρ q.1 (h0 ++ [.dic false []]) = full at z1 ne
    have g0 : Nx m0 H0 (m0 ++ [D]) (upd H0 D (.dK [])) := Nx.grow rh hD
    have r0 : RelH G.K (m0 ++ [D]) (upd H0 D (.dK [])) (h0 ++ [.dic false []]) := rh.growDk (kvs := []) (us := []) hD .nil List.nodup_nil
    have d0 : (m0 ++ [D])[h0.length]? = some D := by rw [← rh.len, List.getElem?_append_right (Nat.le_refl _)]; simp
    refine ⟨fun i mm H => ∃ m1 h1, Nx m0 H0 m1 H ∧ m1[h0.length]? = some D ∧ RelH G.K m1 H h1 ∧ mm = q.1.length - i ∧ i ≤ q.1.length ∧ compD ig q.2 et ek ev own h0.length ρ (q.1.drop i) h1 = full,
      ⟨q.1.length, _, _, g0, d0, r0, by simp, Nat.zero_le _, by simpa using hfull⟩, ?_⟩
    rintro i mm H1 ⟨m1, h1, n1, dm, rh1, rfl, hi, hc⟩
    obtain hlt | heq := Nat.lt_or_eq_of_le hi
    · have hd : q.1.drop i = q.1[i] :: q.1.drop (i + 1) := List.drop_eq_getElem_cons hlt
      rw [hd] at hc
      unfold compD at hc
      obtain ⟨gu, hc⟩ := guard_ok hc ne
      obtain ⟨go, yl⟩ := (it i m1 H1 h1 n1 rh1 gu).1 q.1[i] (List.getElem?_eq_getElem hlt)
      refine .inr ⟨go, fun H' => ∃ m1 h1, Nx m0 H0 m1 H' ∧ m1[h0.length]? = some D ∧ RelH G.K m1 H' h1 ∧ compD ig q.2 et ek ev own h0.length ρ (q.1.drop (i + 1)) h1 = full, fun H' ⟨m2, h2, a1, a2, a3, a4⟩ => ⟨q.1.length - (i + 1), by omega, m2, h2, a1, a2, a3, rfl, hlt, a4⟩, fun x H2 y => ?_⟩
      obtain ⟨n2, rh2, rx⟩ := yl x H2 y
      have n02 := n1.trans n2
      split at hc
      · exact absurd hc.symm ne
      · rename_i ρ' ea
        refine gG_okG (G := G) (m := m1) ig ((rs.mono n02).wipe own) rx ea fun σ2 rs2 wi => ⟨?_, ?_⟩
        · rw [wi own hsl, wipe_wipe]
        · refine ⟨m1, ρ', h1, rs2, rh2, ?_⟩
          split at hc
          · rename_i h3 et1
            rw [et1]
            intro m3 H3 b n3 rh3 e3
            rw [show b = true from e3]
            refine iteT ⟨m3, ρ', h3, rs2.mono n3, rh3, ?_⟩
            split at hc
            · rename_i yw h4 ek1
              rw [ek1]
              intro m4 H4 yv n4 rh4 ry
              refine ⟨m4, ρ', h4, (rs2.mono n3).mono n4, rh4, ?_⟩
              split at hc
              · rename_i vw h5 ev1
                rw [ev1]
                intro m5 H5 vv n5 rh5 rv
                split at hc
                · rename_i h6 ep
                  have n15 := ((n2.trans n3).trans n4).trans n5
                  have dm5 := (((n3.trans n4).trans n5)).get dm
                  obtain ⟨kvs, k, q1, q2, q3, q4, q5⟩ := dputK rh5 dm5 (ry.mono n5) rv ep
                  exact ⟨kvs, k, q1, q2, q3, m5, h6, (n1.trans n15).trans q4, dm5, q5, hc⟩
                · exact absurd hc.symm ne
              · exact absurd hc.symm ne
            · exact absurd hc.symm ne
          · rename_i h3 et1
            rw [et1]
            intro m3 H3 b n3 rh3 e3
            rw [show b = false from e3]
            exact iteF ⟨m3, h3, n1.trans (n2.trans n3), n3.get dm, rh3, hc⟩
          · exact absurd hc.symm ne
    · rw [heq, List.drop_length] at hc
      unfold compD at hc
      obtain ⟨gu, hc⟩ := guard_ok hc ne
      subst hc
      exact .inl ⟨(it i m1 H1 h1 n1 rh1 gu).2 (Nat.le_of_eq heq.symm), z1 m1 H1 _ n1 rh1 (.ref' dm)⟩
end
section
variable {X : Cx} {cl : List Value} {Wx : WX} {pos : Pos} {o i e : Expr} {eo ei ee : En → Hw → Res W}
theorem s_dcm {kx vx tg iter : Expr} {ifs : List Expr} {scope : Scope} {own : List (Str × Nat)} {eit : En → Hw → Res (List W × Gu)} {et : En → Hw → Res Bool} {ek ev : En → Hw → Res W} {ig : IG}
    (hc : X.calm = true) (hN : X.N.Nodup) (hi : PI X tg iter (tI (gx X cl) ig Wx eit)) (ok : BlkOk X.N X.env.scope scope own)
    (hb : ∀ (s : Shared) (H : Hp) (C : Addr) (cs : List (Str × Addr)) (fp : List Addr), PG (X.blk s H scope (compEnvC scope cs C X.env) fp) tg (gG X.K ig) ∧ PTs (X.blk s H scope (compEnvC scope cs C X.env) fp) ifs (tT (gx X cl) noX et) ∧
      PE (X.blk s H scope (compEnvC scope cs C X.env) fp) kx (tE (gx X cl) noX ek) ∧ PE (X.blk s H scope (compEnvC scope cs C X.env) fp) vx (tE (gx X cl) noX ev))
    (hs : ∀ x, foldedSetIterable iter X.env x = pure x) (hsl : ∀ i ∈ slots ig, i ∈ own.map (·.2)) :
    PE X (.DictComp kx vx [⟨tg, iter, ifs, 0⟩] scope pos) (tE (gx X cl) Wx fun ρ h => (eit ρ h).bind fun q h => (compD ig q.2 et ek ev (own.map (·.2)) h.length ρ q.1 (h ++ [.dic false []])).bind fun _ h' => .ok (.ref h.length) h') :=
  conseq (pe_dc hc hN hi ok (fun s H C cs fp => (hb s H C cs fp).1) (fun s H C cs fp => (hb s H C cs fp).2.1) (fun s H C cs fp => (hb s H C cs fp).2.2.1) (fun s H C cs fp => (hb s H C cs fp).2.2.2) hs) fun σ H Q z => tDc_of hsl z
/-! displays -/
def pairUp : List V → List (V × V)
  | a :: b :: r => (a, b) :: pairUp r
  | _ => []
theorem s_pps_nil : ∃ trs, PPs X pos [] [] trs ∧ ∀ σ H (Q : List (V × V) → Hp → Prop), tR (gx X cl) Wx (RepL (gx X cl).K) (fun _ h => Res.ok ([] : List W) h) σ H (fun vs H' => Q (pairUp vs) H') → tPairs trs σ H Q :=
  ⟨[], pps_nil, fun σ H Q ⟨m, ρ, h, rs, rh, z⟩ => z.here rh RepL.nil⟩
theorem s_pps_cons {k v : Expr} {ks : List (Option Expr)} {vs : List Expr} {ek ev : En → Hw → Res W} {er : En → Hw → Res (List W)} (hk : PE X k (tE (gx X cl) Wx ek)) (hv : PE X v (tE (gx X cl) Wx ev))
    (hr : ∃ trs, PPs X pos ks vs trs ∧ ∀ σ H (Q : List (V × V) → Hp → Prop), tR (gx X cl) Wx (RepL (gx X cl).K) er σ H (fun vs H' => Q (pairUp vs) H') → tPairs trs σ H Q) :
    ∃ trs, PPs X pos (some k :: ks) (v :: vs) trs ∧ ∀ σ H (Q : List (V × V) → Hp → Prop), tR (gx X cl) Wx (RepL (gx X cl).K) (fun ρ h => (ek ρ h).bind fun x h => ((ev ρ h).bind fun y h => (er ρ h).bind fun r h => .ok (y :: r) h).bind fun r h => .ok (x :: r) h) σ H (fun vs H' => Q (pairUp vs) H') → tPairs trs σ H Q := by
  obtain ⟨trs, hp, hq⟩ := hr
  refine ⟨_, pps_cons hk hv hp, fun σ H Q z => ?_⟩
  refine tR.bind (R := Rep (gx X cl).K) z fun m ρ a b h H1 rs rh r0 z1 => ?_
  have z1' : RV (gx X cl) (RepL (gx X cl).K) m H1 ((ev ρ h).bind fun y h => (er ρ h).bind fun r h => Res.ok (a :: y :: r) h) (fun vs H' => Q (pairUp vs) H') (fun c d H' => Wx c d σ H') := by
    simpa only [Res.bind_assoc, Res.bind_ok] using z1
  refine tR.next (R := Rep (gx X cl).K) rs rh z1' fun m2 a2 b2 h2 H2 n rs2 rh2 r2 z2 => ?_
  refine hq σ H2 (fun ps H' => Q ((b, b2) :: ps) H') ⟨m2, ρ, h2, rs2, rh2, ?_⟩
  cases e : er ρ h2 with
  | err => rw [e] at z2; exact z2.no
  | exc x h3 => rw [e] at z2; exact z2
  | ok r h3 =>
    rw [e] at z2
    exact fun m3 H3 us n3 rh3 ru => z2 m3 H3 (b :: b2 :: us) n3 rh3 (RepL.cons (Rep.mono n3 (Rep.mono n r0)) (.cons (r2.mono n3) ru))
theorem pr2_rep {K : PySem.W.Frag} {H : Hp} {m : List Addr} : ∀ {ws : List W} {vs : List V} {kvs : List (Int × W)}, RepL K H m ws vs → toPr2 ws = some kvs →
    ∃ us, pairUp vs = (zK (kvs.map (·.1)) us).map (fun kv => (kV kv.1, kv.2)) ∧ RepL K H m (kvs.map (·.2)) us
  | [], _, _, r, e => by
    unfold RepL at r; subst r
    cases e
    exact ⟨[], rfl, .nil⟩
  | [w], _, _, r, e => by cases w <;> cases e
  | w :: w2 :: ws, _, kvs, r, e => by
    obtain ⟨v, q, rfl, r1, r2⟩ := r.uncons
    obtain ⟨v2, q2, rfl, r3, r4⟩ := r2.uncons
    cases w with
    | int k =>
      have e : (toPr2 ws).map ((k, w2) :: ·) = some kvs := e
      cases e1 : toPr2 ws with
      | none => rw [e1] at e; cases e
      | some kvs' =>
        rw [e1] at e; cases e
        obtain ⟨us, e2, ru⟩ := pr2_rep r4 e1
        unfold Rep at r1; subst r1
        refine ⟨v2 :: us, ?_, .cons r3 ru⟩
        show (V.int k, v2) :: pairUp q2 = _
        rw [e2]; rfl
    | _ => cases e
theorem s_ddl {keys : List (Option Expr)} {values : List Expr} {er : En → Hw → Res (List W)}
    (hr : ∃ trs, PPs X pos keys values trs ∧ ∀ σ H (Q : List (V × V) → Hp → Prop), tR (gx X cl) Wx (RepL (gx X cl).K) er σ H (fun vs H' => Q (pairUp vs) H') → tPairs trs σ H Q)
    (hall : keys.all (·.isSome) = true) (hl : keys.length = values.length) (h0 : keys ≠ []) (h15 : keys.length ≤ 15) :
    PE X (.Dict keys values pos) (tE (gx X cl) Wx fun ρ h => (er ρ (h ++ [.dic false []])).bind fun vs h' => ddlV h.length vs h') := by
  obtain ⟨trs, hp, hq⟩ := hr
  refine conseq (pe_disp hp hall hl h0 h15) fun σ H Q ⟨m, ρ, h, rs, rh, z⟩ => fun p hpn => ?_
  have g0 : Nx m H (m ++ [p]) (upd H p (.dK [])) := Nx.grow rh hpn
  have r0 : RelH (gx X cl).K (m ++ [p]) (upd H p (.dK [])) (h ++ [.dic false []]) := rh.growDk (kvs := []) (us := []) hpn .nil List.nodup_nil
  have d0 : (m ++ [p])[h.length]? = some p := by rw [← rh.len, List.getElem?_append_right (Nat.le_refl _)]; simp
  refine hq σ _ _ ⟨m ++ [p], ρ, _, rs.mono g0, r0, ?_⟩
  dsimp only at z
  cases e : er ρ (h ++ [.dic false []]) with
  | err => rw [e] at z; exact z.no
  | exc x h3 => rw [e] at z; exact fun m' H' c d n rh' rx => z m' H' c d (g0.trans n) rh' rx
  | ok ws h3 =>
    rw [e] at z
    intro m3 H3 vs n3 rh3 rl
    have dm := n3.get d0
    have z : RV (gx X cl) (Rep (gx X cl).K) m H (ddlV h.length ws h3) Q (fun c d H' => Wx c d σ H') := z
    unfold ddlV at z
    split at z
    · rename_i kvs e1 e2
      split at z
      · rename_i hl5
        obtain ⟨us0, f, ru0, _⟩ := rh3.dic e2 dm
        have f : H3 p = some (.dK []) := f
        obtain ⟨us, eu, ru⟩ := pr2_rep rl e1
        obtain ⟨us', em, rm, nd⟩ := mrg_rep (acc := []) (ua := []) ru .nil List.nodup_nil
        have em' : mergeK [] (zK (kvs.map (·.1)) us) = zK ((mrgD [] kvs).map (·.1)) us' := em
        refine ⟨f, _, eu, by rw [zK_len (by rw [List.length_map, ← ru.len, List.length_map]), List.length_map]; exact hl5, ?_⟩
        rw [em']
        have q4 := Nx.putD (ks' := zK ((mrgD [] kvs).map (·.1)) us') (List.mem_of_getElem? dm) f
        exact z m3 _ _ ((g0.trans n3).trans q4) (rh3.putD dm f rm nd) ((Rep.ref' dm).mono q4)
      · exact z.no
    · exact z.no
/-! t.index(k) -/
theorem s_tix {apos : Pos} (ho : PE X o (tE (gx X cl) Wx eo)) (hi : PE X i (tE (gx X cl) Wx ei)) (m1 : M1 X o "index" apos i pos) :
    PE X (.Call (.Attribute o "index" apos) [i] [] pos) (tE (gx X cl) Wx fun ρ h => (eo ρ h).bind fun x h => match x with
      | .tup xs => (ei ρ h).bind fun y h => tixV (.tup xs) y h
      | _ => .err) :=
  ⟨fun pins s σ H Q I z => wpAny_Call_method m1.base m1.few m1.line PySem.F.plainAttrs_tuple PySem.F.slot_tuple_index PySem.F.type_tuple_index (thn (ho.run pins s σ H (fun x H1 => ∃ m ρ xs h, RepS (gx X cl).K H1 m ρ σ ∧ RelH (gx X cl).K m H1 h ∧ Rep (gx X cl).K H1 m (.tup xs) x ∧ RV (gx X cl) (Rep (gx X cl).K) m H1 ((ei ρ h).bind fun y h => tixV (.tup xs) y h) Q (fun c d H' => Wx c d σ H')) I (tR.bind z fun m ρ w v h H1 rs rh r z1 => by
    cases w with
    | tup xs => exact ⟨m, ρ, xs, h, rs, rh, r, z1⟩
    | _ => exact z1.no)) fun u s1 ⟨x, H1, I1, rx, m, ρ, xs, h, rs, rh, r, z1⟩ => by
    obtain ⟨a, vs, rfl, st, rl⟩ := r.tup_of
    obtain rfl : u = Value.ref a := rx
    obtain ⟨its, rv, ⟨ob, n, g, hc, hd, hs⟩, hz⟩ := kn_at I1 st.kn
    refine ⟨⟨ob, g, hc⟩, fun b q => (by cases q; exact ⟨ob, g, hd⟩), ?_⟩
    rw [m1.trees]
    refine Calls.callWith_builtin rfl (Calls.evalArgs_plain (Calls.spliced_cons (thn (hi.run pins s1 σ H1 _ I1 (tR.next (R := Rep (gx X cl).K) (R' := Rep (gx X cl).K) (Q' := fun y H2 => ∃ m2 h2 w2, RelH (gx X cl).K m2 H2 h2 ∧ StT (gx X cl).K H2 m2 a vs ∧ RepL (gx X cl).K H2 m2 xs vs ∧ Rep (gx X cl).K H2 m2 w2 y ∧ RV (gx X cl) (Rep (gx X cl).K) m2 H2 (tixV (.tup xs) w2 h2) Q (fun c d H' => Wx c d σ H')) rs rh z1 fun m2 w2 v2 h2 H2 n2 rs2 rh2 r2 z2 => ⟨m2, h2, w2, rh2, st.mono n2, rl.mono n2, r2, z2⟩)) fun iv s2 ⟨y, H2, I2, ry, m2, h2, w2, rh2, st2, rl2, r2, z2⟩ => Calls.spliced_nil ?_)))
    cases w2 with
    | int k =>
      rw [r2.int_of] at ry
      obtain ⟨t, rfl⟩ := ry
      have z2 : RV (gx X cl) (Rep (gx X cl).K) m2 H2 (match toInts xs with
        | some ns => (match ns.idxOf? k with | some i => .ok (.int i) h2 | none => .err)
        | none => .err) Q _ := z2
      split at z2
      · rename_i ns e1
        split at z2
        · rename_i j e2
          obtain ⟨its2, rv2, ⟨ob2, n2, g2, hc2, hd2, hs2⟩, hz2⟩ := kn_at I2 st2.kn
          have ev := ints_of rl2 e1
          subst ev
          obtain ⟨hj, hj2, hj3⟩ := (List.idxOf?_eq_some_iff).mp e2
          have hj2 : ns[j] = k := by simpa using hj2
          have hm : k ∈ ns := hj2 ▸ List.getElem_mem hj
          have hix : ns.idxOf k = j := by
            have h1 := List.idxOf_lt_length_iff.mpr hm
            have h2 := List.getElem_idxOf h1
            rcases Nat.lt_trichotomy (ns.idxOf k) j with q | q | q
            · exact absurd h2 (by simpa using hj3 _ q)
            · exact q
            · exact absurd hj2 (SeqAt.lt_idxOf_ne q hj)
          refine SeqAt.call_tuple_index (vs := its2) (ks := ns) (k := k) ⟨ob2, g2, hc2, n2, hs2⟩ ⟨by rw [← rv2.length, List.length_map], fun p h1 h2 => ?_⟩ hm ⟨.int (ns.idxOf k : Nat), H2, I2.tok _, ⟨_, rfl⟩, ?_⟩
          · obtain ⟨u, hu, t', hu'⟩ := rv2.get (i := p) (x := .int ns[p]) (by simp [h2])
            have e := (List.getElem?_eq_some_iff.mp hu).2
            rw [e, hu']
            have := SeqAt.EqAt.int_int (A := X.A.in1) (s := s2) ns[p] t' k t
            by_cases hp : ns[p] = k
            · rw [decide_eq_true hp]; rw [show (ns[p] == k) = true from beq_iff_eq.mpr hp] at this; exact this
            · rw [decide_eq_false hp]; rw [show (ns[p] == k) = false from beq_eq_false_iff_ne.mpr hp] at this; exact this
          · rw [hix]; exact z2.here rh2 .int'
        · exact z2.no
      · exact z2.no
    | _ => exact z2.no)⟩
end
end Ev

set_option Elab.async false
set_option linter.all false
set_option maxRecDepth 100000
/-! EvL3: reversed(list or tuple), tuple(reversed(list)), chains, max(d.values()). -/
namespace Ev
open PySem PySem.Spec PyProof.Rows L2
section
variable {G : GX} {m0 : List Addr} {H0 : Hp} {q : List W × Gu × Bool} {a : Addr} {ig : IG}
theorem rev_get {xs : List W} {i : Nat} {w : W} (h : xs.reverse[i]? = some w) : i < xs.length ∧ xs[xs.length - 1 - i]? = some w := by
  have hi := (List.getElem?_eq_some_iff.mp h).1
  rw [List.length_reverse] at hi
  rw [List.getElem?_reverse hi] at h
  exact ⟨hi, h⟩
theorem itv_ok (h : AtL G m0 H0 q a) : ItOk G ig m0 H0 (Itv G.K a q.1.length) (q.1.reverse, q.2.1) := fun i m H hw n rh g => by
  obtain ⟨vs, s, r⟩ := h m H hw n rh g
  refine ⟨fun w hw => ?_, fun hl => (show q.1.length ≤ i by simpa using hl)⟩
  obtain ⟨hi, hw⟩ := rev_get hw
  obtain ⟨v, hv, rv⟩ := r.get hw
  refine ⟨⟨hi, vs, v, s, hv⟩, fun x H' y => ?_⟩
  obtain ⟨rfl, y⟩ := y
  cases (y vs s).symm.trans hv
  exact ⟨.refl, rh, rv.g⟩
theorem itvT_ok (h : AtT G m0 H0 q a) : ItOk G ig m0 H0 (RT.ItvT G.K a q.1.length) (q.1.reverse, q.2.1) := fun i m H hw n rh g => by
  obtain ⟨vs, s, r⟩ := h m H hw n rh
  refine ⟨fun w hw => ?_, fun hl => (show q.1.length ≤ i by simpa using hl)⟩
  obtain ⟨hi, hw⟩ := rev_get hw
  obtain ⟨v, hv, rv⟩ := r.get hw
  refine ⟨⟨hi, vs, v, s, hv⟩, fun x H' y => ?_⟩
  obtain ⟨rfl, y⟩ := y
  cases (y vs s).symm.trans hv
  exact ⟨.refl, rh, rv.g⟩
end
section
variable {X : Cx} {cl : List Value} {Wx : WX} {pos p : Pos} {tg e : Expr} {el : En → Hw → Res (List W × Gu × Bool)} {ig : IG}
theorem s_rv (hg : Gl X "reversed") (hm : X.mg "reversed" = none) (he : PE X e (tL (gx X cl) Wx el)) (hs : starEach [e] X.env = (false, eval e X.env) :: starEach [] X.env) :
    PI X tg (.Call (.Name "reversed" p) [e] [] pos) (tI (gx X cl) ig Wx fun ρ h => (el ρ h).bind fun q h => .ok (q.1.reverse, q.2.1) h) :=
  conseqI (RT.pi_revA hg hm he hs) fun σ H R z => tR.bind z fun m ρ q v h H1 rs rh s z1 => by
    obtain ⟨a, rfl, ⟨k, at1⟩ | ⟨k, at1⟩⟩ := src_at (G := gx X cl) s
    · obtain ⟨vs, sq, rl⟩ := at1 m H1 h .refl rh
      exact ⟨a, vs, rfl, .inr ⟨sq, by rw [← rl.len]; exact z1.here rh (itvT_ok at1)⟩⟩
    · obtain ⟨a', vs, e', sq⟩ := src_lst s k
      cases e'
      obtain ⟨a'', us, e'', rl, sq2⟩ := s.sq
      cases e''
      rcases sq2 with sq2 | sq2
      · exact ⟨a, us, rfl, .inl ⟨sq2, by rw [← rl.len]; exact z1.here rh (itv_ok at1)⟩⟩
      · obtain ⟨a3, vs3, e3, r3, s3⟩ := s
        cases e3
        have hl : ∃ ws, SqL X.K H1 a ws ∧ ws.length = q.1.length := by
          rcases s3 with ⟨_, k'⟩ | ⟨_, s3 | s3 | ⟨i, _, s3, _⟩⟩
          · rw [k] at k'; cases k'
          · exact ⟨vs3, s3.sq, r3.len.symm⟩
          · exact ⟨vs3, .of s3.1, r3.len.symm⟩
          · exact ⟨vs3, .of s3, r3.len.symm⟩
        obtain ⟨ws, s4, l4⟩ := hl
        exact ⟨a, ws, rfl, .inl ⟨s4, by rw [l4]; exact z1.here rh (itv_ok at1)⟩⟩
/-- tuple(reversed(list)) -/
def tTupRevF (K : PySem.W.Frag) (te : TE) : TE := fun σ H Q => te σ H fun v H1 => ∃ (a : Addr) (xs : List V), v = .ref a ∧ SqL K H1 a xs ∧ NewT xs.reverse H1 Q
theorem pe_tupRevF {te : TE} {p2 pos2 : Pos} (hc : X.calm = true) (hg : Gl X "tuple") (hm : X.mg "tuple" = none) (hg2 : Gl X "reversed") (hm2 : X.mg "reversed" = none) (he : PE X e te)
    (s1 : starEach [e] X.env = (false, eval e X.env) :: starEach [] X.env) (s2 : starEach [Expr.Call (.Name "reversed" p2) [e] [] pos2] X.env = (false, eval (.Call (.Name "reversed" p2) [e] [] pos2) X.env) :: starEach [] X.env) :
    PE X (.Call (.Name "tuple" p) [.Call (.Name "reversed" p2) [e] [] pos2] [] pos) (tTupRevF X.K te) :=
  ⟨fun pins s σ H Q I h => Call_ (ld_blt I hg hm boot_tuple (PyProof.Rows.callWith_type1 (args_cons (Call_ (ld_blt I hg2 hm2 PyProof.Rows.boot_reversed (PyProof.Rows.callWith_type1 (args_cons (thn (he.run pins s σ H _ I h) fun u t1 ⟨v, K1, J, r1, a, xs, ev, hq, q⟩ => args_nil (by
    subst ev
    obtain rfl : u = Value.ref a := r1
    obtain ⟨its, rv, pl, hz⟩ := J.list hq
    refine call_reversed_list pl.isList (args_nil ?_)
    have J2 : Inv X pins σ K1 { t1 with heap := t1.heap.push (revObj a ((its.toArray.size : Int) - 1)) } := J.kept (t' := t1.toks) fun b o e => Heap.get?_push_of_some _ e
    obtain ⟨f0, f1, f2, f3, f4, f5⟩ := J.fpOk (H' := K1) (b := t1.heap.objs.size) (Nat.le_refl _) (J.hok.fresh (Nat.le_refl _))
    obtain ⟨ol, hol, _⟩ := id pl.isList
    refine RT.call_tuple_rev (s := { t1 with heap := t1.heap.push (revObj a ((its.toArray.size : Int) - 1)) }) (J.ok.hd hc) ⟨_, Heap.get?_push_size _ rfl, rfl, rfl⟩ (pl.isList.push _) (Nat.ne_of_lt (Heap.lt_size hol)) (by rw [List.size_toArray, ← rv.length]; exact hz) fun h2 tk2 acc hk hi => ?_
    have J3 : Inv X pins σ K1 { t1 with heap := h2, toks := tk2 } := J2.turned (t' := tk2) (fun b o hb e => hk b o hb e) f0 f1 f3 f4 f5
    have y := laidF (vs := xs.reverse) (its := acc.toList) J3 (by rw [List.length_reverse]; exact hz) (RT.vals_rev rv hi) q
    rw [Array.toArray_toList] at y
    exact y)) s1) s1 rfl))) s2) s2 rfl))⟩
/-- a chain -/
theorem s_chn {a b c : Expr} {ea eb ec : En → Hw → Res W} {op op' : CmpOp} {r r' : R2} {o o' : Cop} (ho : OpR X (compareOp op) r) (hs : OpS (gx X cl) r (cmp o)) (ho' : OpR X (compareOp op') r') (hs' : OpS (gx X cl) r' (cmp o'))
    (ha : PE X a (tE (gx X cl) Wx ea)) (hb : PE X b (tE (gx X cl) Wx eb)) (hc : PE X c (tE (gx X cl) Wx ec)) (hm : lastMarks [op, op'] [b, c] = false) (hbl : ∀ x y h w h', cmp o x y h = .ok w h' → ∃ k, w = .bl k) (hok : ∀ x y h, (∃ k, cmp o x y h = .ok (.bl k) h) ∨ cmp o x y h = .err) :
    ∀ σ H Q, tE (gx X cl) Wx (fun ρ h => (ea ρ h).bind fun x h => (eb ρ h).bind fun y h => (cmp o x y h).bind fun k h => match k with
      | .bl true => (ec ρ h).bind fun z h => cmp o' y z h
      | .bl false => .ok (.bl false) h
      | _ => .err) σ H Q → tChain r r' (tE (gx X cl) Wx ea) (tE (gx X cl) Wx eb) (tE (gx X cl) Wx ec) σ H Q := fun σ H Q z =>
  tR.bind z fun m ρ x vx h H1 rs rh rx z1 => tR.next rs rh z1 fun m2 y vy h2 H2 n rs2 rh2 ry z2 => by
    rcases hok x y h2 with ⟨k, e⟩ | e
    · rw [e] at z2
      refine hs m2 H2 h2 x y vx vy _ (fun _ _ _ => False) rh2 (rx.mono n) ry ?_
      rw [e]
      intro m3 H3 v n3 rh3 rv
      rw [rv.bl_of]
      refine ⟨k, rfl, ?_⟩
      cases k with
      | true =>
        rw [if_pos rfl]
        have z3 : RV (gx X cl) (Rep (gx X cl).K) m2 H2 ((ec ρ h2).bind fun z h => cmp o' y z h) Q (fun c d H' => Wx c d σ H') := z2
        exact tR.next (rs2.mono n3) rh3 (z3.down n3) fun m4 w4 v4 h4 H4 n4 rs4 rh4 r4 z4 => hs' m4 H4 h4 y w4 vy v4 Q _ rh4 ((ry.mono n3).mono n4) r4 z4
      | false =>
        rw [if_neg (by simp)]
        exact z2 m3 H3 _ n3 rh3 .bl'
    · rw [e] at z2; exact z2.no
end
end Ev

set_option Elab.async false
set_option linter.all false
set_option maxRecDepth 100000
/-! EvL4: max(d.values()). -/
namespace Ev
open PySem PySem.Spec PyProof.Rows L2
section
variable {X : Cx} {o : Expr} {p pos apos mpos : Pos} {td : TE}
/-- max(o.values()), a dict with whole values, one at least -/
def tMaxVals (td : TE) : TE := fun σ H Q => td σ H fun x H1 => ∃ a kvs is, x = V.ref a ∧ H1 a = some (.dK kvs) ∧ kvs.map (·.2) = is.map V.int ∧ is ≠ [] ∧ ∀ m, m ∈ is → (∀ j ∈ is, j ≤ m) → Q (.int m) H1
theorem pe_maxVals (hc : X.calm = true) (hg : Gl X "max") (hm : X.mg "max" = none) (hd : PE X o td) (hbase : attributeBase o "values" X.env (eval o X.env) = eval o X.env) (hline : (apos.endLine == mpos.line) = true)
    (hse : starEach [Expr.Call (.Attribute o "values" apos) [] [] mpos] X.env = [(false, eval (Expr.Call (.Attribute o "values" apos) [] [] mpos) X.env)]) :
    PE X (.Call (.Name "max" p) [.Call (.Attribute o "values" apos) [] [] mpos] [] pos) (tMaxVals td) := by
  refine ⟨fun pins s σ H Q I z => wpAny_Call_Name_kw (ld_blt I hg hm (u := .builtin "max") (by decide +kernel) ?_ (by decide +kernel) (by decide +kernel))⟩
  rw [hse]
  refine PySem.callWith_builtin1 (wpAny_Call_method0_late hbase hline (thn (hd.run pins s σ H _ I z) fun v t1 ⟨x, H1, J, r1, a, kvs, is, ex, ha, hv, hne, q⟩ => ?_))
  subst ex
  obtain rfl : v = Value.ref a := r1
  obtain ⟨_, hsys, vs, rel, dof⟩ := dk_of J.hok ha
  obtain ⟨ep, dat⟩ := dof.dictAt
  obtain ⟨ob, es, ho, ex, _⟩ := id dat
  refine ⟨"dict", "dict.values", F.plainAttrs_dict, F.slot_dict_values, F.type_dict_values, ⟨ob, ho, ex.1⟩, fun b e => (by cases e; exact ⟨ob, ho, ex.2.1⟩), Calls.callWith_builtin rfl (PySem.evalArgs_none ?_)⟩
  refine call_meetsIn F.slot_dict_values ⟨ob, ho, ex.1⟩ F.entry_dict_values (F.args_dict_values_1 _) (meets_dict_values (mixKind X.prog X.w) a hsys) ⟨⟨vs, dof⟩, ?_⟩
  generalize hvw : ({ cls := .type "dict_values", data := .fields #[.ref a] } : Obj) = vw
  have kp : ∀ b u, t1.heap.get? b = some u → (t1.heap.push vw).get? b = some u := fun b u e => Heap.get?_push_of_some _ e
  have datp : (t1.heap.push vw).DictAt (mixKind X.prog X.w) a vs ep := dat.keep kp
  have hlv : vs.length = is.length := by
    have e1 := congrArg List.length hv
    rw [List.length_map, List.length_map] at e1
    exact (KV.length rel).symm.trans e1
  have hpos : 0 < vs.length := by
    rw [hlv]; exact List.length_pos_iff.mpr hne
  have num : ∀ (i : Nat) (u : Value), (∃ k, vs[i]? = some (k, u)) → ∃ t, u = Value.int (is.getD i 0) t := fun i u ⟨k, hk⟩ => by
    obtain ⟨y, h1, h2⟩ := KV.at' rel hk
    have e1 : (kvs.map (·.2))[i]? = some y := by rw [List.getElem?_map, h1]; rfl
    rw [hv, List.getElem?_map] at e1
    obtain ⟨j, hj, e2⟩ := Option.map_eq_some_iff.mp e1
    subst e2
    obtain ⟨t, e3⟩ := h2
    exact ⟨t, by rw [e3, List.getD_eq_getElem?_getD, hj]; rfl⟩
  have alt : a < t1.heap.objs.size := Heap.lt_size ho
  have szp : (t1.heap.push vw).objs.size = t1.heap.objs.size + 1 := Heap.size_push _ _
  refine call_max_walk (wpAny_pyIter_values (v := t1.heap.objs.size) (d := a) ⟨_, Heap.get?_push_size _ (by rw [← hvw]; rfl), by rw [← hvw], by rw [← hvw]⟩ datp ?_)
  refine ⟨_, _, _, _, _, _, _, rfl, Walks.dictValues (knd := mixKind X.prog X.w) (A := X.A.in1) (J.ok.hd hc) (t1.heap.push vw).objs.size a (by rw [szp]; exact Nat.ne_of_lt (Nat.lt_succ_of_lt alt)) vs ep,
    ⟨⟨_, Heap.get?_push_size _ rfl, rfl, rfl⟩, datp.keep fun b u e => Heap.get?_push_of_some _ e⟩, fun b hb => ?_, hpos, CmpOf.ints_gt (fun i => is.getD i 0) num, fun u h2 tk hP hk => ?_⟩
  · show b < ((t1.heap.push _).push _).objs.size
    rw [Heap.size_push]
    rcases List.mem_cons.mp hb with e | hb
    · rw [e]; exact Nat.lt_succ_self _
    · rw [List.mem_singleton.mp hb, szp]; exact Nat.lt_succ_of_lt (Nat.lt_succ_of_lt alt)
  · obtain ⟨t, rfl⟩ := num _ u hP
    obtain ⟨b1, b2⟩ := PySem.argBest_gt (fun i => is.getD i 0) (vs.length - 1)
    generalize hB : argBest (fun i j => decide (is.getD i 0 > is.getD j 0)) (vs.length - 1) = B at b1 b2 ⊢
    have hBl : B < is.length := by rw [← hlv]; omega
    refine ⟨.int (is.getD B 0), H1, J.kept (t' := tk) fun b u e => hk b u (fun hmem => ?_) (Heap.get?_push_of_some _ (kp b u e)), ⟨t, by first | rfl | (rw [← hB])⟩, q _ ?_ fun j hj => ?_⟩
    · have e1 := List.mem_singleton.mp hmem
      have e2 := Heap.lt_size e
      rw [e1, szp] at e2
      exact absurd e2 (by simp only [Nat.not_lt, Nat.le_succ]; try omega)
    · rw [List.getD_eq_getElem?_getD, List.getElem?_eq_getElem hBl]
      exact List.getElem_mem hBl
    · obtain ⟨i, hi, e⟩ := List.mem_iff_getElem.mp hj
      have e2 : is.getD i 0 = j := by rw [List.getD_eq_getElem?_getD, List.getElem?_eq_getElem hi, ← e]; rfl
      rw [← e2]
      exact b2 i (by rw [hlv]; omega)
end
section
variable {X : Cx} {cl : List Value} {Wx : WX} {pos p apos mpos : Pos} {e : Expr} {ee : En → Hw → Res W}
theorem zip_snd : ∀ (ks : List Int) (us : List V), ks.length = us.length → (ks.zip us).map (fun z => z.2) = us
  | [], us, h => by
    have : us = [] := List.eq_nil_of_length_eq_zero h.symm
    subst this; rfl
  | k :: ks, [], h => by simp at h
  | k :: ks, u :: us, h => by
    have := zip_snd ks us (by simpa using h)
    simp [this]
theorem s_dvm (hc : X.calm = true) (hg : Gl X "max") (hm : X.mg "max" = none) (he : PE X e (tE (gx X cl) Wx ee)) (hbase : attributeBase e "values" X.env (eval e X.env) = eval e X.env) (hline : (apos.endLine == mpos.line) = true)
    (hse : starEach [Expr.Call (.Attribute e "values" apos) [] [] mpos] X.env = [(false, eval (Expr.Call (.Attribute e "values" apos) [] [] mpos) X.env)]) :
    PE X (.Call (.Name "max" p) [.Call (.Attribute e "values" apos) [] [] mpos] [] pos) (tE (gx X cl) Wx fun ρ h => (ee ρ h).bind fun x h => dvmV x h) :=
  conseq (pe_maxVals hc hg hm he hbase hline hse) fun σ H Q z => tR.bind z fun m ρ w v h H1 rs rh r z1 => by
    cases w with
    | ref n =>
      obtain ⟨a, e1, rfl⟩ := r.ref_of
      have z1 : RV (gx X cl) (Rep (gx X cl).K) m H1 (match h[n]? with
        | some (.dic false kvs) => (match toInts (kvs.map (·.2)) with
          | some (n :: ns) => .ok (.int (maxL (n :: ns))) h
          | _ => .err)
        | _ => .err) Q _ := z1
      split at z1
      · rename_i kvs hk
        obtain ⟨us, f, ru, nd⟩ := rh.dic hk e1
        have f : H1 a = some _ := f
        split at z1
        · rename_i n0 ns hn
          have hu := ints_of ru hn
          have lu : (kvs.map (·.1)).length = us.length := by rw [List.length_map, ← ru.len, List.length_map]
          refine ⟨a, _, n0 :: ns, rfl, f, ?_, by simp, fun M h1 h2 => ?_⟩
          · rw [← hu]
            unfold zK
            rw [List.map_map]
            show ((kvs.map (·.1)).zip us).map (fun z => z.2) = us
            exact zip_snd _ _ lu
          · rw [maxL_uniq h1 h2]
            exact z1.here rh .int'
        · exact z1.no
      · exact z1.no
    | _ => exact z1.no
end
end Ev

set_option Elab.async false
set_option linter.all false
set_option maxRecDepth 100000
/-! EvL5: name = {k: v for ..}. -/
namespace Ev
open PySem PySem.Spec PyProof.Rows L2
section
variable {X : Cx} {cl : List Value} {Wx : WX} {pos : Pos}
theorem ps_setDc {i : Nat} {y : Str} {py : Pos} {kx vx tg iter : Expr} {ifs : List Expr} {scope : Scope} {own : List (Str × Nat)} {spos : Pos} {wi : TI} {g : TG} {tt : TT} {tk tv : TE} (hc : X.calm = true) (hN : X.N.Nodup) (hy : X.N[i]? = some y)
    (hyl : X.env.scope.names.lookup y = some .local) (hsw : swapsWith (.DictComp kx vx [⟨tg, iter, ifs, 0⟩] scope pos) (some (.Name y py)) spos.line X.env = pure true) (hi : PI X tg iter wi) (ok : BlkOk X.N X.env.scope scope own)
    (hb : ∀ (s : Shared) (H : Hp) (C : Addr) (cs : List (Str × Addr)) (fp : List Addr), PG (X.blk s H scope (compEnvC scope cs C X.env) fp) tg g ∧ PTs (X.blk s H scope (compEnvC scope cs C X.env) fp) ifs tt ∧ PE (X.blk s H scope (compEnvC scope cs C X.env) fp) kx tk ∧ PE (X.blk s H scope (compEnvC scope cs C X.env) fp) vx tv)
    (hs : ∀ x, foldedSetIterable iter X.env x = pure x) :
    PS X (.Assign [.Name y py] (.DictComp kx vx [⟨tg, iter, ifs, 0⟩] scope pos) spos) (tAsg (tDc wi g tt tk tv (own.map (·.2))) (gName i)) := by
  refine ⟨fun pins s σ H D I h => ?_⟩
  rw [exec_Assign_Name_used _ _ _ _ hsw]
  refine wpAny_bind (wpAny_standAt (wpAny_bind ?_))
  show wpAny _ X.A (do let _ ← comprehension (.DictComp kx vx [⟨tg, iter, ifs, 0⟩] scope pos) scope X.env (firstIterPos [⟨tg, iter, ifs, 0⟩] pos) newDict false (eval iter X.env) (some (assign (.Name y py) X.env))) _ _ s
  have h : tDc wi g tt tk tv (own.map (·.2)) σ H (fun x H1 => gName i x σ H1 D.nx) := h
  refine wpAny_bind (thn (dc_core (Qf := fun _ s' => SP X pins D .next s') hc hN I hi ok (fun s H C cs fp => (hb s H C cs fp).1) (fun s H C cs fp => (hb s H C cs fp).2.1) (fun s H C cs fp => (hb s H C cs fp).2.2.1) (fun s H C cs fp => (hb s H C cs fp).2.2.2) hs h fun L B t1 mm K1 J q hn f => ?_) fun _ s' hq => wpAny_pure (wpAny_pure hq))
  show wpAny _ _ (assign (.Name y py) X.env (.ref L)) _ _ _
  refine wpAny_assign_Name (store_ok2 (v := V.ref L) J hN hy (.inl hyl) rfl (fun t2 J2 ⟨a, sb, ha⟩ => ?_) (.inr hyl))
  obtain ⟨f0, f1, f2, f3, f4, f5⟩ := f
  have ne : B ≠ a := ha.elim (fun z => by rw [z]; exact f1) fun z e => f4 y a z e.symm
  exact ⟨mm, hn.sameBut sb ne, fun h3 sb3 => ⟨_, K1, J2.turned (t' := t2.toks) (fun b o hb e => (sb3.2 b hb).trans e) f0 f1 f3 f4 f5, q⟩⟩
theorem ss_setDc {i : Nat} {y : Str} {py : Pos} {kx vx tg iter : Expr} {ifs : List Expr} {scope : Scope} {own : List (Str × Nat)} {spos : Pos} {eit : En → Hw → Res (List W × Gu)} {et : En → Hw → Res Bool} {ek ev : En → Hw → Res W} {ig : IG}
    (hc : X.calm = true) (hN : X.N.Nodup) (hy : X.N[i]? = some y)
    (hyl : X.env.scope.names.lookup y = some .local) (hsw : swapsWith (.DictComp kx vx [⟨tg, iter, ifs, 0⟩] scope pos) (some (.Name y py)) spos.line X.env = pure true) (hi : PI X tg iter (tI (gx X cl) ig Wx eit)) (ok : BlkOk X.N X.env.scope scope own)
    (hb : ∀ (s : Shared) (H : Hp) (C : Addr) (cs : List (Str × Addr)) (fp : List Addr), PG (X.blk s H scope (compEnvC scope cs C X.env) fp) tg (gG X.K ig) ∧ PTs (X.blk s H scope (compEnvC scope cs C X.env) fp) ifs (tT (gx X cl) noX et) ∧
      PE (X.blk s H scope (compEnvC scope cs C X.env) fp) kx (tE (gx X cl) noX ek) ∧ PE (X.blk s H scope (compEnvC scope cs C X.env) fp) vx (tE (gx X cl) noX ev))
    (hs : ∀ x, foldedSetIterable iter X.env x = pure x) (hsl : ∀ i ∈ slots ig, i ∈ own.map (·.2)) :
    PS X (.Assign [.Name y py] (.DictComp kx vx [⟨tg, iter, ifs, 0⟩] scope pos) spos) (tS (gx X cl) Wx fun ρ h => ((eit ρ h).bind fun q h => (compD ig q.2 et ek ev (own.map (·.2)) h.length ρ q.1 (h ++ [.dic false []])).bind fun _ h' => Res.ok (W.ref h.length) h').st ρ fun x h => match asg (.var i) x ρ with | some ρ' => .ok (.next, ρ') h | none => .err) :=
  conseqS (ps_setDc hc hN hy hyl hsw hi ok hb hs) fun D σ H z => tDc_of hsl (tS.st z fun m1 ρ a b h1 H1 rs rh r z1 => RSt.here z1 rh _ (rs.setS r i))
theorem sw_trueD {kx vx : Expr} {gs : List Comprehension} {scope : Scope} {pos py : Pos} {y : Str} {l : Nat} {env : Env} (hk : env.scope.kind = .function) (hy : env.scope.names.lookup y = some .local) (hl : (py.line == pos.line) = true)
    (ha : (scope.names.any fun (n, k) => n == y && (k == .local || k == .cell)) = false) : swapsWith (.DictComp kx vx gs scope pos) (some (.Name y py)) l env = pure true :=
  sw_true (elt := kx) (gs := gs) (l := l) hk hy hl ha
end
end Ev

set_option Elab.async false
set_option linter.all false
set_option maxRecDepth 100000
/-! EvM: walks of a dict (it is locked meanwhile); insert, remove, count of a list. -/
namespace Ev
open PySem PySem.Spec PyProof.Rows L2
/-! ### what stands outside -/
section
variable {K : PySem.W.Frag} {m : List Addr} {H H' : Hp} {a : Addr}
def OutS (m : List Addr) (H H' : Hp) : Prop := ∀ a o, H a = some o → a ∉ m → H' a = some o
theorem StT.outS (x : OutS m H H') {vs : List V} (s : StT K H m a vs) : StT K H' m a vs :=
  s.elim (fun ⟨⟨o, z, d⟩, n⟩ => .inl ⟨⟨o, x _ _ z n, d⟩, n⟩) .inr
theorem StL.outS (x : OutS m H H') {vs : List V} (s : StL K H m a vs) : StL K H' m a vs :=
  s.elim (fun ⟨⟨o, z⟩, n⟩ => .inl ⟨⟨o, x _ _ z n⟩, n⟩) .inr
mutual
theorem Rep.outS (x : OutS m H H') : ∀ {w : W} {v : V}, Rep K H m w v → Rep K H' m w v
  | .non, _, r => by unfold Rep at r ⊢; exact r
  | .bl _, _, r => by unfold Rep at r ⊢; exact r
  | .int _, _, r => by unfold Rep at r ⊢; exact r
  | .str _, _, r => by unfold Rep at r ⊢; exact r
  | .tup xs, _, r => by
    unfold Rep at r ⊢
    obtain ⟨a, vs, e, s, q⟩ := r
    exact ⟨a, vs, e, s.outS x, RepL.outS x q⟩
  | .fl xs, _, r => by
    unfold Rep at r ⊢
    obtain ⟨a, vs, e, s, q⟩ := r
    exact ⟨a, vs, e, s.outS x, RepL.outS x q⟩
  | .ref n, _, r => by
    unfold Rep at r ⊢
    exact r
  | .rg _ _, _, r => by
    unfold Rep at r ⊢
    obtain ⟨a, e, q, n⟩ := r
    exact ⟨a, e, x _ _ q n, n⟩
theorem RepL.outS (x : OutS m H H') : ∀ {ws : List W} {vs : List V}, RepL K H m ws vs → RepL K H' m ws vs
  | [], _, r => by unfold RepL at r ⊢; exact r
  | w :: ws, _, r => by
    unfold RepL at r ⊢
    obtain ⟨v, q, e, r1, r2⟩ := r
    exact ⟨v, q, e, Rep.outS x r1, RepL.outS x r2⟩
end
theorem RepS.outS (x : OutS m H H') : ∀ {ρ : En} {σ : L2.St}, RepS K H m ρ σ → RepS K H' m ρ σ
  | [], _, r => by unfold RepS at r ⊢; exact r
  | none :: ρ, _, r => by
    unfold RepS at r ⊢
    obtain ⟨y, q, e, r2⟩ := r
    exact ⟨y, q, e, RepS.outS x r2⟩
  | some w :: ρ, _, r => by
    unfold RepS at r ⊢
    obtain ⟨v, q, e, r1, r2⟩ := r
    exact ⟨v, q, e, r1.outS x, RepS.outS x r2⟩
theorem RepO.outS (x : OutS m H H') {b : Addr} {o : O} (e : H' b = H b) (r : RepO K H m b o) : RepO K H' m b o := by
  cases o with
  | lst xs =>
    obtain ⟨vs, f, r'⟩ := r
    exact ⟨vs, e.trans f, r'.outS x⟩
  | dic _ _ =>
    obtain ⟨us, e1, r1, nd⟩ := r
    exact ⟨us, e1.to e, r1.outS x, nd⟩
  | dit _ _ =>
    obtain ⟨us, e1, r1, nd⟩ := r
    exact ⟨us, e1.to e, r1.outS x, nd⟩
theorem outS_upd (ha : a ∈ m) {o : HO} : OutS m H (upd H a o) := fun b u e hb => by rw [upd_ne (fun z => hb (by rw [z]; exact ha))]; exact e
/-- the object at a is another one -/
theorem RelH.swap {h : Hw} (x : RelH K m H h) {n : Nat} (e : m[n]? = some a) {o : HO} {u : O} (r : RepO K (upd H a o) m a u) : RelH K m (upd H a o) (h.set n u) := by
  have ha := List.mem_of_getElem? e
  refine ⟨x.nd, by simp [x.len], fun i b u' e1 e2 => ?_⟩
  by_cases hi : i = n
  · subst hi
    have hl : i < h.length := by rw [← x.len]; exact (List.getElem?_eq_some_iff.mp e).1
    rw [List.getElem?_set_self hl] at e2
    rw [e] at e1
    cases e1; cases e2
    exact r
  · rw [List.getElem?_set_ne (Ne.symm hi)] at e2
    exact (x.obj i b u' e1 e2).outS (outS_upd ha) (upd_ne fun z => hi (nodup_ix x.nd e1 (z ▸ e)))
end
/-! ### locks -/
def tLock' (t : TS) : TS := fun D σ H => ∃ d u, H d = some u ∧ Mut (some u) ∧ ∀ od, t ⟨fun σ' H' => ∃ o' u', H' d = some (.frz o' u') ∧ D.nx σ' (upd H' d u'), fun v H' => ∃ o' u', H' d = some (.frz o' u') ∧ D.rt v (upd H' d u'), fun σ' H' => ∃ o' u', H' d = some (.frz o' u') ∧ D.bk σ' (upd H' d u'), fun σ' H' => ∃ o' u', H' d = some (.frz o' u') ∧ D.ct σ' (upd H' d u')⟩ σ (upd H d (.frz od u))
def tLockE' (t : TE) : TE := fun σ H Q => ∃ d u, H d = some u ∧ Mut (some u) ∧ ∀ od, t σ (upd H d (.frz od u)) fun v H' => ∃ o' u', H' d = some (.frz o' u') ∧ Q v (upd H' d u')
section
variable {X : Cx}
theorem ps_lock' {st : Stmt} {t : TS} (h : PS X st t) : PS X st (tLock' t) := by
  refine ⟨fun pins s σ H D I hw => ?_⟩
  obtain ⟨d, u, hd, mu, hw⟩ := hw
  obtain ⟨od, I1⟩ := I.lock hd mu
  refine thn (h.run pins s σ _ _ I1 (hw od)) fun f s1 q => ?_
  cases f with
  | next => obtain ⟨σ', H', I2, _, _, e, q⟩ := q; exact ⟨σ', _, I2.unlock e (I.nofrz hd mu), q⟩
  | brk => obtain ⟨σ', H', I2, _, _, e, q⟩ := q; exact ⟨σ', _, I2.unlock e (I.nofrz hd mu), q⟩
  | cont => obtain ⟨σ', H', I2, _, _, e, q⟩ := q; exact ⟨σ', _, I2.unlock e (I.nofrz hd mu), q⟩
  | ret v => obtain ⟨x, σ', H', I2, r, _, _, e, q⟩ := q; exact ⟨x, σ', _, I2.unlock e (I.nofrz hd mu), r, q⟩
theorem pe_lock' {e : Expr} {t : TE} (h : PE X e t) : PE X e (tLockE' t) := by
  refine ⟨fun pins s σ H Q I hw => ?_⟩
  obtain ⟨d, u, hd, mu, hw⟩ := hw
  obtain ⟨od, I1⟩ := I.lock hd mu
  refine thn (h.run pins s σ _ _ I1 (hw od)) fun v s1 ⟨x, H1, I2, r, o', u', e2, q⟩ => ?_
  exact ⟨x, _, I2.unlock e2 (I.nofrz hd mu), r, q⟩
end
section
variable {K : PySem.W.Frag} {m m' : List Addr} {H H' : Hp} {h : Hw} {d : Addr}
theorem Nx.lock (hm : d ∈ m) {ks : List (Key × V)} (hd : H d = some (.dK ks)) {od : Obj} : Nx m H m (upd H d (.frz od (.dK ks))) :=
  ⟨⟨[], by simp⟩, fun b u e hb => by rw [upd_ne (fun z => hb (by rw [z]; exact hm))]; exact e, fun _ h1 h2 => absurd h1 h2, fun b xs e => by
    have z : b ≠ d := fun z => by rw [z, hd] at e; cases e
    exact ⟨xs, by rw [upd_ne z]; exact e⟩, fun b o u e => by rw [upd_ne (fun z => by rw [z, hd] at e; cases e)]; exact e⟩
theorem Nx.unlock {od : Obj} {ks ks' : List (Key × V)} (hm : d ∈ m) (hd : H d = some (.dK ks)) (x : Nx m (upd H d (.frz od (.dK ks))) m' H') : Nx m H m' (upd H' d (.dK ks')) := by
  have hm' := x.sub hm
  refine ⟨x.pre, fun b u e hb => ?_, fun b h1 h2 => ?_, fun b xs e => ?_, fun b o u e => ?_⟩
  · have z : b ≠ d := fun z => hb (z ▸ hm)
    rw [upd_ne z]
    exact x.fr b u (by rw [upd_ne z]; exact e) hb
  · have z : b ≠ d := fun z => h2 (z ▸ hm)
    have := x.new b h1 h2
    rwa [upd_ne z] at this
  · have z : b ≠ d := fun z => by rw [z, hd] at e; cases e
    rw [upd_ne z]
    exact x.kd b xs (by rw [upd_ne z]; exact e)
  · have z : b ≠ d := fun z => by rw [z, hd] at e; cases e
    rw [upd_ne z]
    exact x.fz b o u (by rw [upd_ne z]; exact e)
theorem lkOf_of {r : Res W} {h : Hw} {n : Nat} {kvs : List (Int × W)} (e : lkOf r h = some (n, kvs)) : h[n]? = some (.dic false kvs) := by
  unfold lkOf at e
  split at e
  · split at e
    · rename_i k kv hk; cases e; exact hk
    · cases e
  · cases e
theorem unlk_of {n : Nat} {h h2 : Hw} (e : unlk n h = some h2) : ∃ kvs, h[n]? = some (.dic true kvs) ∧ h2 = h.set n (.dic false kvs) := by
  unfold unlk at e
  split at e
  · rename_i kvs hk; cases e; exact ⟨kvs, hk, rfl⟩
  · cases e
theorem RelH.lock (x : RelH K m H h) {n : Nat} (hd : m[n]? = some d) {kvs : List (Int × W)} (hn : h[n]? = some (.dic false kvs)) : ∃ ks, H d = some (.dK ks) ∧ ∀ od, RelH K m (upd H d (.frz od (.dK ks))) (h.set n (.dic true kvs)) := by
  obtain ⟨us, f, r, nd⟩ := x.dic hn hd
  exact ⟨_, f, fun od => x.swap hd ⟨us, ⟨od, upd_same⟩, r.outS (outS_upd (List.mem_of_getElem? hd)), nd⟩⟩
theorem RelH.unlock (x : RelH K m H h) {n : Nat} (hd : m[n]? = some d) {h2 : Hw} (e : unlk n h = some h2) : ∃ o' ks, H d = some (.frz o' (.dK ks)) ∧ RelH K m (upd H d (.dK ks)) h2 := by
  obtain ⟨kvs, hn, rfl⟩ := unlk_of e
  obtain ⟨us, ⟨od, f⟩, r, nd⟩ := x.dic hn hd
  exact ⟨od, _, f, x.swap hd ⟨us, upd_same, r.outS (outS_upd (List.mem_of_getElem? hd)), nd⟩⟩
end
section
variable {X : Cx} {cl : List Value} {Wx : WX} {pos : Pos} {e : Expr} {eg ee : En → Hw → Res W} {es : En → Hw → Rs} {st : Stmt}
theorem s_lck (he : PE X e (tE (gx X cl) Wx ee)) : PE X e (tE (gx X cl) Wx fun ρ h => match lkOf (eg ρ h) h with
    | some (n, kvs) => (ee ρ (h.set n (.dic true kvs))).bind fun x h' => match unlk n h' with
      | some h2 => .ok x h2
      | none => .err
    | none => .err) :=
  conseq (pe_lock' he) fun σ H Q ⟨m, ρ, h, rs, rh, z⟩ => by
    dsimp only at z
    cases el : lkOf (eg ρ h) h with
    | none => rw [el] at z; exact z.no
    | some p =>
      obtain ⟨n, kvs⟩ := p
      rw [el] at z
      dsimp only at z
      have hn := lkOf_of el
      have hl : n < m.length := by rw [rh.len]; exact (List.getElem?_eq_some_iff.mp hn).1
      have hd : m[n]? = some m[n] := List.getElem?_eq_getElem hl
      generalize m[n] = d at hd
      have hm := List.mem_of_getElem? hd
      obtain ⟨ks, f, rl⟩ := rh.lock hd hn
      refine ⟨d, _, f, trivial, fun od => ⟨m, ρ, _, rs.mono (Nx.lock hm f), rl od, ?_⟩⟩
      cases er : ee ρ (h.set n (.dic true kvs)) with
      | err => rw [er] at z; exact z
      | exc x h' =>
        rw [er] at z
        exact fun m' H' c dd nx r' q => z m' H' c dd ((Nx.lock hm f).trans nx) r' q
      | ok x h' =>
        rw [er, Res.bind_ok] at z
        intro m' H' b nx r' q
        cases eu : unlk n h' with
        | none => rw [eu] at z; exact z.no
        | some h2 =>
          rw [eu] at z
          obtain ⟨o', ks', f', r2⟩ := r'.unlock (nx.get hd) eu
          exact ⟨o', _, f', z m' _ b (Nx.unlock hm f nx) r2 (q.outS (outS_upd (nx.sub hm)))⟩
theorem ss_lck (he : PS X st (tS (gx X cl) Wx es)) : PS X st (tS (gx X cl) Wx fun ρ h => match lkOf (eg ρ h) h with
    | some (n, kvs) => (match es ρ (h.set n (.dic true kvs)) with
      | .ok (.rz e, ρ') h' => .ok (.rz e, ρ') h'
      | .ok (f, ρ') h' => (match unlk n h' with
        | some h2 => .ok (f, ρ') h2
        | none => .err)
      | _ => .err)
    | none => .err) :=
  conseqS (ps_lock' he) fun D σ H ⟨m, ρ, h, rs, rh, z⟩ => by
    dsimp only at z
    cases el : lkOf (eg ρ h) h with
    | none => rw [el] at z; exact RSt.no z
    | some p =>
      obtain ⟨n, kvs⟩ := p
      rw [el] at z
      dsimp only at z
      have hn := lkOf_of el
      have hl : n < m.length := by rw [rh.len]; exact (List.getElem?_eq_some_iff.mp hn).1
      have hd : m[n]? = some m[n] := List.getElem?_eq_getElem hl
      generalize m[n] = d at hd
      have hm := List.mem_of_getElem? hd
      obtain ⟨ks, f, rl⟩ := rh.lock hd hn
      refine ⟨d, _, f, trivial, fun od => ⟨m, ρ, _, rs.mono (Nx.lock hm f), rl od, ?_⟩⟩
      cases er : es ρ (h.set n (.dic true kvs)) with
      | err => rw [er] at z; exact z
      | exc x h' => rw [er] at z; exact z
      | ok q h' =>
        obtain ⟨fl, ρ'⟩ := q
        rw [er] at z
        intro m' H' nx r'
        have key : ∀ h2, unlk n h' = some h2 → (∀ g, fl ≠ .rz g) → RSt (gx X cl) Wx m H (.ok (fl, ρ') h2) D → FlOk (gx X cl) Wx fl ρ' m' H' ⟨fun σ' H' => ∃ o' u', H' d = some (.frz o' u') ∧ D.nx σ' (upd H' d u'), fun v H' => ∃ o' u', H' d = some (.frz o' u') ∧ D.rt v (upd H' d u'), fun σ' H' => ∃ o' u', H' d = some (.frz o' u') ∧ D.bk σ' (upd H' d u'), fun σ' H' => ∃ o' u', H' d = some (.frz o' u') ∧ D.ct σ' (upd H' d u')⟩ := by
          intro h2 eu hf z2
          obtain ⟨o', ks', f', r2⟩ := r'.unlock (nx.get hd) eu
          have out := outS_upd (H := H') (o := HO.dK ks') (nx.sub hm)
          have y := z2 m' _ (Nx.unlock hm f nx) r2
          cases fl with
          | next => exact fun σ' rs' => ⟨o', _, f', y σ' (rs'.outS out)⟩
          | brk => exact fun σ' rs' => ⟨o', _, f', y σ' (rs'.outS out)⟩
          | cont => exact fun σ' rs' => ⟨o', _, f', y σ' (rs'.outS out)⟩
          | ret w => exact fun v rv => ⟨o', _, f', y v (rv.outS out)⟩
          | rz e => exact absurd rfl (hf e)
        cases fl with
        | rz e => exact z m' H' ((Nx.lock hm f).trans nx) r'
        | _ =>
          dsimp only at z
          cases eu : unlk n h' with
          | none => rw [eu] at z; exact RSt.no z
          | some h2 => rw [eu] at z; exact key h2 eu (fun g y => nomatch y) z
end
/-! ### walks -/
theorem zK_get {ks : List Int} {us : List V} {i : Nat} {k : Key} {v : V} (h : (zK ks us)[i]? = some (k, v)) : ∃ j, ks[i]? = some j ∧ k = .inl j ∧ us[i]? = some v := by
  unfold zK at h
  rw [List.getElem?_map] at h
  cases e : (ks.zip us)[i]? with
  | none => rw [e] at h; cases h
  | some p =>
    rw [e] at h
    cases h
    rw [List.getElem?_zip_eq_some] at e
    exact ⟨p.1, e.1, rfl, e.2⟩
section
variable {G : GX} {m0 : List Addr} {H0 : Hp} {d : Addr} {ig : IG} {od : Obj} {kvs : List (Int × W)} {us : List V}
theorem itk_ok (hd : H0 d = some (.frz od (.dK (zK (kvs.map (·.1)) us)))) (r : RepL G.K H0 m0 (kvs.map (·.2)) us) : ItOk G ig m0 H0 (Itk d od (zK (kvs.map (·.1)) us)) (kvs.map fun p => .int p.1, []) := fun i m H hw n rh _ => by
  have hd' := n.fz _ _ _ hd
  have hl := r.len
  have lz : (zK (kvs.map (·.1)) us).length = kvs.length := by unfold zK; rw [List.length_map] at hl; simp; omega
  refine ⟨fun w hw => ?_, fun hl => ⟨hd', by rw [lz]; simpa using hl⟩⟩
  have hi := (List.getElem?_eq_some_iff.mp hw).1
  rw [List.length_map] at hi
  refine ⟨⟨hd', by rw [lz]; exact hi⟩, fun x H' y => ?_⟩
  obtain ⟨rfl, k, v, y, rfl⟩ := y
  obtain ⟨j, e1, rfl, e2⟩ := zK_get y
  rw [List.getElem?_map] at hw e1
  cases ek : kvs[i]? with
  | none => rw [ek] at e1; cases e1
  | some p =>
    rw [ek] at hw e1
    cases hw; cases e1
    exact ⟨.refl, rh, Rep.g (show Rep G.K _ m (.int p.1) (.int p.1) by unfold Rep; rfl)⟩
theorem iti_ok {ts : List IG} (hd : H0 d = some (.frz od (.dK (zK (kvs.map (·.1)) us)))) (r : RepL G.K H0 m0 (kvs.map (·.2)) us) : ItOk G (.tup ts) m0 H0 (Iti d od (zK (kvs.map (·.1)) us)) (kvs.map fun p => .tup [.int p.1, p.2], []) := fun i m H hw n rh _ => by
  have hd' := n.fz _ _ _ hd
  have hl := r.len
  have lz : (zK (kvs.map (·.1)) us).length = kvs.length := by unfold zK; rw [List.length_map] at hl; simp; omega
  refine ⟨fun w hw => ?_, fun hl => ⟨hd', by rw [lz]; simpa using hl⟩⟩
  have hi := (List.getElem?_eq_some_iff.mp hw).1
  rw [List.length_map] at hi
  refine ⟨⟨hd', by rw [lz]; exact hi⟩, fun x H' y => ?_⟩
  obtain ⟨T, k, v, y, rfl, hT, rfl⟩ := y
  obtain ⟨j, e1, rfl, e2⟩ := zK_get y
  rw [List.getElem?_map] at hw e1
  cases ek : kvs[i]? with
  | none => rw [ek] at e1; cases e1
  | some p =>
    rw [ek] at hw e1
    cases hw; cases e1
    obtain ⟨v', ev', rv⟩ := r.get (i := i) (show (kvs.map (·.2))[i]? = some p.2 by rw [List.getElem?_map, ek]; rfl)
    rw [e2] at ev'
    cases ev'
    have nl : Nx m H m (upd H T (.tup [kV (.inl p.1), v])) := Nx.laid hT
    exact ⟨nl, rh.laid hT, T, _, rfl, .inl (.inl upd_same), .cons (by unfold Rep; rfl) (.cons ((rv.mono n).mono nl) .nil)⟩
end
section
variable {X : Cx} {cl : List Value} {Wx : WX} {tg e : Expr} {ee : En → Hw → Res W} {ig : IG} {apos cpos tpos : Pos}
theorem s_dk (he : PE X e (tE (gx X cl) Wx ee)) : PI X tg e (tI (gx X cl) ig Wx fun ρ h => (ee ρ h).bind fun x h => match dkV x h with
    | some xs => .ok (xs, []) h
    | none => .err) :=
  conseqI (pi_keys he) fun σ H R z => tR.bind z fun m ρ x v h H1 rs rh rx z1 => by
    unfold dkV at z1
    cases x with
    | ref n =>
      obtain ⟨a, e1, rfl⟩ := rx.ref_of
      dsimp only at z1
      cases eo : h[n]? with
      | none => rw [eo] at z1; exact z1.no
      | some o =>
        rw [eo] at z1
        cases o with
        | lst _ => exact z1.no
        | dit _ _ => exact z1.no
        | dic lk kvs =>
          cases lk with
          | false => exact z1.no
          | true =>
            obtain ⟨us, ⟨od, f⟩, r, nd⟩ := rh.dic eo e1
            exact ⟨a, od, rfl, .inl ⟨_, f, z1 m H1 _ .refl rh (itk_ok f r)⟩⟩
    | _ => exact z1.no
theorem s_di {elts : List Expr} {kk : Nat} {ts : List IG} (he : PE X e (tE (gx X cl) Wx ee)) (hbase : attributeBase e "items" X.env (eval e X.env) = eval e X.env) (hline : (apos.endLine == cpos.line) = true) : PI X (.Tuple elts kk tpos) (.Call (.Attribute e "items" apos) [] [] cpos) (tI (gx X cl) (.tup ts) Wx fun ρ h => (ee ρ h).bind fun x h => match diV x h with
    | some xs => .ok (xs, []) h
    | none => .err) :=
  conseqI (pi_items he hbase hline) fun σ H R z => tR.bind z fun m ρ x v h H1 rs rh rx z1 => by
    unfold diV at z1
    cases x with
    | ref n =>
      obtain ⟨a, e1, rfl⟩ := rx.ref_of
      dsimp only at z1
      cases eo : h[n]? with
      | none => rw [eo] at z1; exact z1.no
      | some o =>
        rw [eo] at z1
        cases o with
        | lst _ => exact z1.no
        | dit _ _ => exact z1.no
        | dic lk kvs =>
          cases lk with
          | false => exact z1.no
          | true =>
            obtain ⟨us, ⟨od, f⟩, r, nd⟩ := rh.dic eo e1
            exact ⟨a, od, _, rfl, f, z1 m H1 _ .refl rh (iti_ok f r)⟩
    | _ => exact z1.no
end
/-! ### methods of lists -/
section
variable {G : GX}
abbrev rIns : V → List V → Hp → VK → Prop := fun x vs H Q => ∃ (l : Addr) (xs : List V) (i : Int) (y : V), x = .ref l ∧ vs = [.int i, y] ∧ H l = some (.lst xs) ∧ xs.length < sizeLine ∧ 0 ≤ i ∧ i < 2 ^ 63 ∧
    Q .non (upd H l (.lst (xs.take i.toNat ++ [y] ++ xs.drop i.toNat)))
theorem ints_rep {K : PySem.W.Frag} {H : Hp} {m : List Addr} : ∀ ns : List Int, RepL K H m (ns.map W.int) (ns.map V.int)
  | [] => .nil
  | n :: ns => .cons (by unfold Rep; rfl) (ints_rep ns)
theorem insertS : MtS G rIns .insert := by
  intro m H h o x ws vs Q E rh ro r z
  by_cases ho : ∃ p, o = .ref p
  · obtain ⟨p, rfl⟩ := ho
    obtain ⟨a, e1, rfl⟩ := ro.ref_of
    match ws with
    | [.int i, w] =>
      obtain ⟨v1, v2, rfl, r1, r2⟩ := r.two
      rw [r1.int_of]
      have z : RV G (Rep G.K) m H (match h[p]? with
        | some (.lst xs) => if xs.length < lim ∧ 0 ≤ i ∧ i < 2 ^ 62 then .ok .non (h.set p (.lst (xs.take i.toNat ++ [w] ++ xs.drop i.toNat))) else .err
        | _ => .err) Q E := z
      split at z
      · rename_i xs hx
        obtain ⟨zs, f, q⟩ := rh.lst hx e1
        split at z
        · rename_i c
          exact ⟨a, zs, i, v2, rfl, rfl, f, by rw [← q.len, ← lim_eq]; exact c.1, c.2.1, Int.lt_trans c.2.2 (by decide), RV.put f z rh e1 (((q.take _).append (.cons r2 .nil)).append (q.drop _)) .non'⟩
        · exact z.no
      · exact z.no
    | [] => exact z.no
    | [.non] => exact z.no
    | [.bl _] => exact z.no
    | [.int _] => exact z.no
    | [.str _] => exact z.no
    | [.tup _] => exact z.no
    | [.fl _] => exact z.no
    | [.ref _] => exact z.no
    | [.rg _ _] => exact z.no
    | .non :: _ :: _ => exact z.no
    | .bl _ :: _ :: _ => exact z.no
    | .str _ :: _ :: _ => exact z.no
    | .tup _ :: _ :: _ => exact z.no
    | .fl _ :: _ :: _ => exact z.no
    | .ref _ :: _ :: _ => exact z.no
    | .rg _ _ :: _ :: _ => exact z.no
    | .int _ :: _ :: _ :: _ => exact z.no
  · rw [mt_o fun p e => ho ⟨p, e⟩] at z
    exact z.no
theorem removeS : MtS G rRemI .remove := by
  intro m H h o x ws vs Q E rh ro r z
  by_cases ho : ∃ p, o = .ref p
  · obtain ⟨p, rfl⟩ := ho
    obtain ⟨a, e1, rfl⟩ := ro.ref_of
    match ws with
    | [.int k] =>
      obtain ⟨v, rfl, r1⟩ := r.one
      rw [r1.int_of]
      have z : RV G (Rep G.K) m H (match h[p]? with
        | some (.lst xs) => (match toInts xs with
          | some ns => (match ns.idxOf? k with | some j => .ok .non (h.set p (.lst ((ns.eraseIdx j).map .int))) | none => .err)
          | none => .err)
        | _ => .err) Q E := z
      split at z
      · rename_i xs hx
        obtain ⟨zs, f, q⟩ := rh.lst hx e1
        split at z
        · rename_i ns hns
          split at z
          · rename_i j hj
            have hv := ints_of q hns
            subst hv
            have hj' := hj
            rw [List.idxOf?, List.findIdx?_eq_some_iff_getElem] at hj'
            obtain ⟨hl, e3, e4⟩ := hj'
            refine ⟨a, ns, k, j, rfl, rfl, f, ?_, fun m' hm' e5 => ?_, RV.put f z rh e1 (ints_rep _) .non'⟩
            · rw [List.getElem?_eq_getElem hl]; simpa using e3
            · have := e4 m' hm'
              rw [List.getElem?_eq_getElem (by omega)] at e5
              simp at this e5
              exact this e5
          · exact z.no
        · exact z.no
      · exact z.no
    | [] => exact z.no
    | [.non] => exact z.no
    | [.bl _] => exact z.no
    | [.str _] => exact z.no
    | [.tup _] => exact z.no
    | [.fl _] => exact z.no
    | [.ref _] => exact z.no
    | [.rg _ _] => exact z.no
    | .non :: _ :: _ => exact z.no
    | .bl _ :: _ :: _ => exact z.no
    | .int _ :: _ :: _ => exact z.no
    | .str _ :: _ :: _ => exact z.no
    | .tup _ :: _ :: _ => exact z.no
    | .fl _ :: _ :: _ => exact z.no
    | .ref _ :: _ :: _ => exact z.no
    | .rg _ _ :: _ :: _ => exact z.no
  · rw [mt_o fun p e => ho ⟨p, e⟩] at z
    exact z.no
theorem countS : MtS G (rCntI G.K) .count := by
  intro m H h o x ws vs Q E rh ro r z
  by_cases ho : ∃ p, o = .ref p
  · obtain ⟨p, rfl⟩ := ho
    obtain ⟨a, e1, rfl⟩ := ro.ref_of
    match ws with
    | [.int k] =>
      obtain ⟨v, rfl, r1⟩ := r.one
      rw [r1.int_of]
      have z : RV G (Rep G.K) m H (match h[p]? with
        | some (.lst xs) => (match toInts xs with | some ns => .ok (.int (ns.count k : Nat)) h | none => .err)
        | _ => .err) Q E := z
      split at z
      · rename_i xs hx
        obtain ⟨zs, f, q⟩ := rh.lst hx e1
        split at z
        · rename_i ns hns
          have hv := ints_of q hns
          subst hv
          exact ⟨a, ns, k, rfl, rfl, .of f, z m H _ .refl rh (by unfold Rep; rfl)⟩
        · exact z.no
      · exact z.no
    | [] => exact z.no
    | [.non] => exact z.no
    | [.bl _] => exact z.no
    | [.str _] => exact z.no
    | [.tup _] => exact z.no
    | [.fl _] => exact z.no
    | [.ref _] => exact z.no
    | [.rg _ _] => exact z.no
    | .non :: _ :: _ => exact z.no
    | .bl _ :: _ :: _ => exact z.no
    | .int _ :: _ :: _ => exact z.no
    | .str _ :: _ :: _ => exact z.no
    | .tup _ :: _ :: _ => exact z.no
    | .fl _ :: _ :: _ => exact z.no
    | .ref _ :: _ :: _ => exact z.no
    | .rg _ _ :: _ :: _ => exact z.no
  · rw [mt_o fun p e => ho ⟨p, e⟩] at z
    exact z.no
end
end Ev

set_option Elab.async false
set_option linter.all false
set_option maxRecDepth 100000
set_option maxHeartbeats 4000000
/-! EvZ: zip of a list and a tuple, either way (the kit has it of two lists and of two tuples): zip over two sides of any kind. -/
namespace Ev
open PySem PySem.Spec PyProof.Rows L2
/-- what zip asks of the iterator `it` of the sequence `l` -/
structure Zs (P : Program) (w : World) (it l : Addr) (St : Nat → Heap → Prop) (Ct : Array Value → Heap → Prop) : Prop where
  item : ∀ (A : Around) (E : Value → Shared → Prop) (s : Shared) (k : Nat) (xs : Array Value) (x : Value) (Q : Value → Shared → Prop), St k s.heap → Ct xs s.heap → xs[k]? = some x →
    (∀ h', St (k + 1) h' → Heap.SameBut it s.heap h' → Q x { s with heap := h' }) → wpAny (model P w) A (Builtin.SmallTypes.nextOf (.ref it)) Q E s
  fin : ∀ (A : Around) (E : Value → Shared → Prop) (s : Shared) (k : Nat) (xs : Array Value) (Q : Value → Shared → Prop), A.handled = none → St k s.heap → Ct xs s.heap → xs[k]? = none →
    (∀ h' e, Heap.ExtBut it s.heap h' → (∃ o, h'.get? e = some o ∧ o.cls = .type "StopIteration") → E (.ref e) { s with heap := h' }) → wpAny (model P w) A (Builtin.SmallTypes.nextOf (.ref it)) Q E s
  stE : ∀ {k : Nat} {h h' : Heap} {c : Addr}, St k h → Heap.ExtBut c h h' → it ≠ c → St k h'
  ctE : ∀ {xs : Array Value} {h h' : Heap} {c : Addr}, Ct xs h → Heap.ExtBut c h h' → l ≠ c → Ct xs h'
  stA : ∀ {k : Nat} {h h' : Heap}, St k h → (∀ o, h.get? it = some o → h'.get? it = some o) → St k h'
  obj : ∀ {k : Nat} {h : Heap}, St k h → ∃ o, h.get? it = some o ∧ ∀ v, o.data ≠ .cell v
theorem zs_list (P : Program) (w : World) (it l : Addr) : Zs P w it l (fun k h => h.IsListIter it l k) (fun xs h => h.IsList l xs) where
  item := fun A E s k xs x Q a b c d => wpAny_nextOf_list_item a b c d
  fin := fun A E s k xs Q hh a b c d => wpAny_nextOf_list_end hh a b c d
  stE := fun a e n => a.extBut e n
  ctE := fun a e n => a.extBut e n
  stA := fun a e => a.at e
  obj := fun {k h} a => by
    obtain ⟨o, e1, _, d1⟩ := a
    exact ⟨o, e1, fun v q => by rw [d1] at q; cases q⟩
theorem zs_tup (P : Program) (w : World) (it l : Addr) : Zs P w it l (fun k h => h.IsTupleIter it l k) (fun xs h => h.IsTuple l xs) where
  item := fun A E s k xs x Q a b c d => RZ.nextOf_tuple_item a b c d
  fin := fun A E s k xs Q hh a b c d => RZ.nextOf_tuple_end hh a b c d
  stE := fun a e n => a.extBut e n
  ctE := fun a e n => a.extBut e n
  stA := fun a e => a.at e
  obj := fun {k h} a => by
    obtain ⟨o, e1, _, d1⟩ := a
    exact ⟨o, e1, fun v q => by rw [d1] at q; cases q⟩
section
variable {P : Program} {w : World} {A : Around} {E : Value → Shared → Prop} {s : Shared} {z TI TO i1 i2 l1 l2 : Addr} {S1 S2 : Nat → Heap → Prop} {C1 C2 : Array Value → Heap → Prop} {k1 k2 : Nat} {xs ys : Array Value} {x y a b : Value}
theorem zm_item {Q : Value → Shared → Prop} (Z1 : Zs P w i1 l1 S1 C1) (Z2 : Zs P w i2 l2 S2 C2) (D : ZipApart z TI TO i1 i2 l1 l2) (hz : IsZip s.heap z TI TO .none) (hTI : IsPair s.heap TI (.ref i1) (.ref i2)) (hTO : IsPair s.heap TO a b)
    (h1 : S1 k1 s.heap) (h2 : S2 k2 s.heap) (c1 : C1 xs s.heap) (c2 : C2 ys s.heap) (hx : xs[k1]? = some x) (hy : ys[k2]? = some y)
    (hQ : ∀ h', IsZip h' z TI TO (rawInt s.heap.objs.size) → IsPair h' TO x y → S1 (k1 + 1) h' → S2 (k2 + 1) h' → IsPair h' s.heap.objs.size x y → h'.objs.size = s.heap.objs.size + 1 →
      (∀ c o, c ≠ z → c ≠ TO → c ≠ i1 → c ≠ i2 → s.heap.get? c = some o → h'.get? c = some o) → Q (.ref s.heap.objs.size) { s with heap := h' }) :
    wpAny (model P w) A (Builtin.«zip.__next__» ⟨[.ref z], []⟩) (fun fin s' => ∃ v, fin = .done (.ret v) ∧ Q v s') E s := by
  show wpAny _ _ (field (.ref z) 2 >>= _) _ _ _
  refine wpAny_bind (wpAny_field hz rfl (x := .bool false) rfl ?_); show wpAny _ _ (field (.ref z) 3 >>= _) _ _ _
  refine wpAny_bind (wpAny_field hz rfl (x := .ref TI) rfl (wpAny_bind (wpAny_seqItems hTI rfl ?_)))
  show wpAny _ _ (Builtin.SmallTypes.ownedTupleIsFree (.ref z) >>= _) _ _ _
  refine wpAny_bind ?_; unfold Builtin.SmallTypes.ownedTupleIsFree
  refine wpAny_bind (wpAny_field hz rfl (x := .none) rfl (wpAny_pure ?_)); simp only [if_true]
  refine wpAny_bind (wpAny_rule (wpAny_bind (wpAny_field hz rfl (x := .ref TO) rfl (wpAny_bind (wpAny_setField_rec hz (by simp) fun g1 q1 u1 => ?_)))))
  have q1 : IsZip g1 z TI TO .ellipsis := q1
  refine wpAny_bind ?_; simp only [List.zipIdx_cons, List.zipIdx_nil, List.forIn_cons, List.forIn_nil]
  refine wpAny_bind (wpAny_bind (wpAny_onRaise ?_)); show wpAny _ _ (Builtin.SmallTypes.nextOf (.ref i1) >>= _) _ _ _
  refine wpAny_bind (Z1.item _ _ _ _ _ _ _ (Z1.stE h1 u1.extBut D.i1z) (Z1.ctE c1 u1.extBut D.l1z) hx fun g2 p2 u2 => wpAny_pure ?_)
  have t2 : IsPair g2 TO a b := u2.extBut _ _ D.TOi1 (u1.extBut _ _ D.TOz hTO)
  refine wpAny_bind (wpAny_seqItems t2 rfl (wpAny_bind (wpAny_updateSeq_pair t2 fun g3 t3 u3 => wpAny_bind (wpAny_letGo (wpAny_pure ?_)))))
  have t3 : IsPair g3 TO x b := t3
  refine wpAny_bind (wpAny_bind (wpAny_onRaise ?_)); show wpAny _ _ (Builtin.SmallTypes.nextOf (.ref i2) >>= _) _ _ _
  refine wpAny_bind (Z2.item _ _ _ _ _ _ _ (Z2.stE (Z2.stE (Z2.stE h2 u1.extBut D.i2z) u2.extBut D.i12.symm) u3.extBut D.TOi2.symm) (Z2.ctE (Z2.ctE (Z2.ctE c2 u1.extBut D.l2z) u2.extBut D.l2i1) u3.extBut D.l2TO) hy fun g4 p4 u4 => wpAny_pure ?_)
  have t4 : IsPair g4 TO x b := u4.extBut _ _ D.TOi2 t3
  refine wpAny_bind (wpAny_seqItems t4 rfl (wpAny_bind (wpAny_updateSeq_pair t4 fun g5 t5 u5 => wpAny_bind (wpAny_letGo (wpAny_pure (wpAny_pure ?_))))))
  have t5 : IsPair g5 TO x y := t5
  refine wpAny_bind (wpAny_seqItems t5 rfl (wpAny_bind (wpAny_newTuple ?_)))
  have sz : g5.objs.size = s.heap.objs.size := by rw [u5.1, u4.1, u3.1, u2.1, u1.1]
  have q5 : IsZip g5 z TI TO .ellipsis := u5.extBut _ _ D.TOz.symm (u4.extBut _ _ D.i2z.symm (u3.extBut _ _ D.TOz.symm (u2.extBut _ _ D.i1z.symm q1)))
  have k5 : ∀ c o, c ≠ z → c ≠ TO → c ≠ i1 → c ≠ i2 → s.heap.get? c = some o → g5.get? c = some o := fun c o n1 n2 n3 n4 e => u5.extBut _ _ n2 (u4.extBut _ _ n4 (u3.extBut _ _ n2 (u2.extBut _ _ n3 (u1.extBut _ _ n1 e))))
  have a5 : S1 (k1 + 1) g5 := Z1.stE (Z1.stE (Z1.stE p2 u3.extBut D.TOi1.symm) u4.extBut D.i12) u5.extBut D.TOi1.symm
  have b5 : S2 (k2 + 1) g5 := Z2.stE p4 u5.extBut D.TOi2.symm
  have zlt : z < g5.objs.size := Heap.lt_size q5
  show wpAny _ _ (Builtin.SmallTypes.ownedTupleHandOut (.ref z) (.ref g5.objs.size) >>= _) _ _ _
  refine wpAny_bind ?_; unfold Builtin.SmallTypes.ownedTupleHandOut
  have q6 : IsZip (g5.push { cls := .type "tuple", data := .seq #[x, y] }) z TI TO .ellipsis := Heap.get?_push_of_some _ q5
  refine wpAny_bind (wpAny_setField_rec q6 (by simp) fun g7 q7 u7 => ?_)
  have q7 : IsZip g7 z TI TO (rawInt g5.objs.size) := q7
  refine wpAny_setField_rec q7 (by simp) fun g8 q8 u8 => ?_
  have q8 : IsZip g8 z TI TO (rawInt g5.objs.size) := q8
  have up : ∀ c o, c ≠ z → g5.get? c = some o → g8.get? c = some o := fun c o n e => u8.extBut _ _ n (u7.extBut _ _ n (Heap.get?_push_of_some _ e))
  have T8 : IsPair g8 g5.objs.size x y := u8.extBut _ _ (Nat.ne_of_gt zlt) (u7.extBut _ _ (Nat.ne_of_gt zlt) (Heap.get?_push_size _ rfl))
  have s8 : g8.objs.size = g5.objs.size + 1 := by rw [u8.1, u7.1, Heap.size_push]
  rw [sz] at q8 T8 s8
  refine wpAny_pure ⟨_, rfl, ?_⟩; show Q (.ref g5.objs.size) _; rw [sz]
  exact hQ g8 q8 (up _ _ D.TOz t5) (Z1.stA a5 fun o e => up _ o D.i1z e) (Z2.stA b5 fun o e => up _ o D.i2z e) T8 s8 fun c o n1 n2 n3 n4 e => up c o n1 (k5 c o n1 n2 n3 n4 e)
theorem zm_end {Q : Fin → Shared → Prop} (hh : A.handled = none) (Z1 : Zs P w i1 l1 S1 C1) (Z2 : Zs P w i2 l2 S2 C2) (D : ZipApart z TI TO i1 i2 l1 l2) (hz : IsZip s.heap z TI TO .none) (hTI : IsPair s.heap TI (.ref i1) (.ref i2)) (hTO : IsPair s.heap TO a b)
    (h1 : S1 k1 s.heap) (h2 : S2 k2 s.heap) (c1 : C1 xs s.heap) (c2 : C2 ys s.heap) (hend : xs[k1]? = none ∨ ys[k2]? = none)
    (hE : ∀ h' e, (∀ c o, c ≠ z → c ≠ TO → c ≠ i1 → c ≠ i2 → s.heap.get? c = some o → h'.get? c = some o) → (∃ o, h'.get? e = some o ∧ o.cls = .type "StopIteration") → E (.ref e) { s with heap := h' }) :
    wpAny (model P w) A (Builtin.«zip.__next__» ⟨[.ref z], []⟩) Q E s := by
  show wpAny _ _ (field (.ref z) 2 >>= _) _ _ _
  refine wpAny_bind (wpAny_field hz rfl (x := .bool false) rfl ?_); show wpAny _ _ (field (.ref z) 3 >>= _) _ _ _
  refine wpAny_bind (wpAny_field hz rfl (x := .ref TI) rfl (wpAny_bind (wpAny_seqItems hTI rfl ?_)))
  show wpAny _ _ (Builtin.SmallTypes.ownedTupleIsFree (.ref z) >>= _) _ _ _
  refine wpAny_bind ?_; unfold Builtin.SmallTypes.ownedTupleIsFree
  refine wpAny_bind (wpAny_field hz rfl (x := .none) rfl (wpAny_pure ?_)); simp only [if_true]
  refine wpAny_bind (wpAny_rule (wpAny_bind (wpAny_field hz rfl (x := .ref TO) rfl (wpAny_bind (wpAny_setField_rec hz (by simp) fun g1 q1 u1 => ?_)))))
  have q1 : IsZip g1 z TI TO .ellipsis := q1
  refine wpAny_bind ?_; simp only [List.zipIdx_cons, List.zipIdx_nil, List.forIn_cons, List.forIn_nil]
  refine wpAny_bind (wpAny_bind (wpAny_onRaise ?_)); show wpAny _ _ (Builtin.SmallTypes.nextOf (.ref i1) >>= _) _ _ _
  cases hx : xs[k1]? with
  | none =>
    refine wpAny_bind (Z1.fin _ _ _ _ _ _ hh (Z1.stE h1 u1.extBut D.i1z) (Z1.ctE c1 u1.extBut D.l1z) hx fun g2 e u2 he => ?_)
    obtain ⟨oe, e1, e2⟩ := he
    have q2 : IsZip g2 z TI TO .ellipsis := u2 _ _ D.i1z.symm q1
    have ne : e ≠ z := fun x => by subst x; rw [q2] at e1; cases e1; simp at e2
    exact wpAny_setField_rec q2 (by simp) fun g3 _ u3 => hE g3 e (fun c o n1 _ n3 _ x => u3.extBut _ _ n1 (u2 _ _ n3 (u1.extBut _ _ n1 x))) ⟨oe, u3.extBut _ _ ne e1, e2⟩
  | some x =>
    have hy : ys[k2]? = none := by rcases hend with h | h; rw [hx] at h; cases h; exact h
    refine wpAny_bind (Z1.item _ _ _ _ _ _ _ (Z1.stE h1 u1.extBut D.i1z) (Z1.ctE c1 u1.extBut D.l1z) hx fun g2 p2 u2 => wpAny_pure ?_)
    have t2 : IsPair g2 TO a b := u2.extBut _ _ D.TOi1 (u1.extBut _ _ D.TOz hTO)
    refine wpAny_bind (wpAny_seqItems t2 rfl (wpAny_bind (wpAny_updateSeq_pair t2 fun g3 t3 u3 => wpAny_bind (wpAny_letGo (wpAny_pure ?_)))))
    refine wpAny_bind (wpAny_bind (wpAny_onRaise ?_)); show wpAny _ _ (Builtin.SmallTypes.nextOf (.ref i2) >>= _) _ _ _
    refine wpAny_bind (Z2.fin _ _ _ _ _ _ hh (Z2.stE (Z2.stE (Z2.stE h2 u1.extBut D.i2z) u2.extBut D.i12.symm) u3.extBut D.TOi2.symm) (Z2.ctE (Z2.ctE (Z2.ctE c2 u1.extBut D.l2z) u2.extBut D.l2i1) u3.extBut D.l2TO) hy fun g4 e u4 he => ?_)
    obtain ⟨oe, e1, e2⟩ := he
    have q4 : IsZip g4 z TI TO .ellipsis := u4 _ _ D.i2z.symm (u3.extBut _ _ D.TOz.symm (u2.extBut _ _ D.i1z.symm q1))
    have ne : e ≠ z := fun x => by subst x; rw [q4] at e1; cases e1; simp at e2
    exact wpAny_setField_rec q4 (by simp) fun g5 _ u5 => hE g5 e (fun c o n1 n2 n3 n4 x => u5.extBut _ _ n1 (u4 _ _ n4 (u3.extBut _ _ n2 (u2.extBut _ _ n3 (u1.extBut _ _ n1 x))))) ⟨oe, u5.extBut _ _ ne e1, e2⟩
theorem py_zm_item {Q : Option Value → Shared → Prop} (Z1 : Zs P w i1 l1 S1 C1) (Z2 : Zs P w i2 l2 S2 C2) (D : ZipApart z TI TO i1 i2 l1 l2) (hz : IsZip s.heap z TI TO .none) (hTI : IsPair s.heap TI (.ref i1) (.ref i2)) (hTO : IsPair s.heap TO a b)
    (h1 : S1 k1 s.heap) (h2 : S2 k2 s.heap) (c1 : C1 xs s.heap) (c2 : C2 ys s.heap) (hx : xs[k1]? = some x) (hy : ys[k2]? = some y)
    (hQ : ∀ h', IsZip h' z TI TO (rawInt s.heap.objs.size) → IsPair h' TO x y → S1 (k1 + 1) h' → S2 (k2 + 1) h' → IsPair h' s.heap.objs.size x y → h'.objs.size = s.heap.objs.size + 1 →
      (∀ c o, c ≠ z → c ≠ TO → c ≠ i1 → c ≠ i2 → s.heap.get? c = some o → h'.get? c = some o) → Q (some (.ref s.heap.objs.size)) { s with heap := h' }) : wpAny (model P w) A (pyNext (.ref z)) Q E s := by
  have hT : s.TypeIs (.ref z) "zip" := ⟨_, hz, rfl⟩
  unfold pyNext
  exact wpAny_bind (wpAny_attempt (wpAny_callSpecial?_slot (name := Str.ofString "__next__") hT F.slot_zip_next (wpAny_call_entry F.slot_zip_next hT F.entry_zip_next
    (zm_item Z1 Z2 D hz hTI hTO h1 h2 c1 c2 hx hy fun h' b1 b2 b3 b4 b5 b6 b7 => wpAny_pure (hQ h' b1 b2 b3 b4 b5 b6 b7)) (F.args_zip_next_1 _))))
theorem py_zm_end {Q : Option Value → Shared → Prop} (hh : A.handled = none) (Z1 : Zs P w i1 l1 S1 C1) (Z2 : Zs P w i2 l2 S2 C2) (D : ZipApart z TI TO i1 i2 l1 l2) (hz : IsZip s.heap z TI TO .none) (hTI : IsPair s.heap TI (.ref i1) (.ref i2)) (hTO : IsPair s.heap TO a b)
    (h1 : S1 k1 s.heap) (h2 : S2 k2 s.heap) (c1 : C1 xs s.heap) (c2 : C2 ys s.heap) (hend : xs[k1]? = none ∨ ys[k2]? = none)
    (hQ : ∀ h', (∀ c o, c ≠ z → c ≠ TO → c ≠ i1 → c ≠ i2 → s.heap.get? c = some o → h'.get? c = some o) → Q none { s with heap := h' }) : wpAny (model P w) A (pyNext (.ref z)) Q E s := by
  have hT : s.TypeIs (.ref z) "zip" := ⟨_, hz, rfl⟩
  unfold pyNext
  refine wpAny_bind (wpAny_attempt (wpAny_callSpecial?_slot (name := Str.ofString "__next__") hT F.slot_zip_next (wpAny_call_entry F.slot_zip_next hT F.entry_zip_next
    (zm_end hh Z1 Z2 D hz hTI hTO h1 h2 c1 c2 hend fun h' e hk he => ?_) (F.args_zip_next_1 _))))
  obtain ⟨o, ho, hc⟩ := he
  exact wpAny_bind (wpAny_isInstance (T := "StopIteration") (b := true) ⟨o, ho, hc⟩ isSubtype_stop (wpAny_pure (hQ _ hk)))
end
/-! the readings: R1, R2 tell what stands at a, b -/
def ItzM (K : PySem.W.Frag) (R1 R2 : Hp → Addr → List V → Prop) (a b : Addr) : It :=
  ⟨fun i H => ∃ (xs ys : List V) (x y : V), R1 H a xs ∧ R2 H b ys ∧ xs[i]? = some x ∧ ys[i]? = some y,
    fun i H v H' => ∃ T x y, v = .ref T ∧ H T = none ∧ H' = upd H T (.tup [x, y]) ∧ (∀ xs, R1 H a xs → xs[i]? = some x) ∧ ∀ ys, R2 H b ys → ys[i]? = some y,
    fun i H => ∃ xs ys : List V, R1 H a xs ∧ R2 H b ys ∧ (xs.length ≤ i ∨ ys.length ≤ i)⟩
/-- a reading and the side of zip that belongs to it -/
structure Zr (X : Cx) (R1 : Hp → Addr → List V → Prop) (C1 : Addr → Array Value → Heap → Prop) : Prop where
  get : ∀ {pins : List (Addr × Obj)} {σ : L2.St} {H : Hp} {s : Shared} {a : Addr} {xs : List V}, Inv X pins σ H s → R1 H a xs → ∃ its : List Value, Vals xs its ∧ C1 a its.toArray s.heap
  inj : ∀ {pins : List (Addr × Obj)} {σ : L2.St} {H : Hp} {s : Shared} {a : Addr} {xs ys : List V}, Inv X pins σ H s → R1 H a xs → R1 H a ys → xs = ys
theorem zr_list (X : Cx) : Zr X (SqL X.K) (fun a xs h => h.IsList a xs) where
  get := fun I h => by obtain ⟨its, rv, p, _⟩ := I.list h; exact ⟨its, rv, p.isList⟩
  inj := fun I a b => I.list_inj a b
theorem zr_tup (X : Cx) : Zr X (SqT X.K) (fun a xs h => h.IsTuple a xs) where
  get := fun I h => by obtain ⟨its, rv, p, _⟩ := I.tuple h; exact ⟨its, rv, p⟩
  inj := fun I a b => I.tuple_inj a b
theorem turn_zm {P : Program} {w : World} {K : PySem.W.Frag} {elts : List Expr} {kk : Nat} {tpos : Pos} {a b z TI TO i1 i2 : Addr} {R1 R2 : PySem.W.Frag → Hp → Addr → List V → Prop} {C1 C2 : Addr → Array Value → Heap → Prop} {S1 S2 : Addr → Addr → Nat → Heap → Prop}
    (Q1 : ∀ X : Cx, X.K = K → Zr X (R1 K) C1) (Q2 : ∀ X : Cx, X.K = K → Zr X (R2 K) C2) (Z1 : Zs P w i1 a (S1 i1 a) (C1 a)) (Z2 : Zs P w i2 b (S2 i2 b) (C2 b)) (D : ZipApart z TI TO i1 i2 a b) :
    Turn P w K (.Tuple elts kk tpos) (ItzM K (R1 K) (R2 K) a b) [z, TI, TO, i1, i2] z (fun i h => IsZip h z TI TO .none ∧ IsPair h TI (.ref i1) (.ref i2) ∧ (∃ x y, IsPair h TO x y) ∧ S1 i1 a i h ∧ S2 i2 b i h) where
  mem := by simp
  obj := fun i h st c hc => by
    obtain ⟨hz, hTI, ⟨x, y, hTO⟩, m1, m2⟩ := st
    rcases (show c = z ∨ c = TI ∨ c = TO ∨ c = i1 ∨ c = i2 by simpa using hc) with rfl | rfl | rfl | rfl | rfl
    · exact ⟨_, hz, fun v q => nomatch q⟩
    · exact ⟨_, hTI, fun v q => nomatch q⟩
    · exact ⟨_, hTO, fun v q => nomatch q⟩
    · exact Z1.obj m1
    · exact Z2.obj m2
  keep := fun i h h' st k => by
    obtain ⟨hz, hTI, ⟨x, y, hTO⟩, m1, m2⟩ := st
    exact ⟨k z (by simp) _ hz, k TI (by simp) _ hTI, ⟨x, y, k TO (by simp) _ hTO⟩, Z1.stA m1 fun o q => k i1 (by simp) o q, Z2.stA m2 fun o q => k i2 (by simp) o q⟩
  item := by
    intro X hP hw hK hc i pins s σ H E I hf st hg
    have q1 := Q1 X hK
    have q2 := Q2 X hK
    subst hP hw hK
    obtain ⟨hz, hTI, ⟨x0, y0, hTO⟩, m1, m2⟩ := st
    obtain ⟨xs, ys, x, y, ra, rb, hx, hy⟩ := hg
    obtain ⟨its, rv, p⟩ := q1.get I ra
    obtain ⟨its2, rv2, p2⟩ := q2.get I rb
    obtain ⟨u, hu, ru⟩ := rv.get hx
    obtain ⟨u2, hu2, ru2⟩ := rv2.get hy
    have hzl : z < s.heap.objs.size := Heap.lt_size hz
    refine py_zm_item Z1 Z2 D hz hTI hTO m1 m2 p p2 (x := u) (y := u2) (by simpa using hu) (by simpa using hu2) fun h' z' TO' n1 n2 hT hsz hk => ?_
    refine ⟨_, rfl, wpAny_letOwnedTupleGo_zip (s := { s with heap := h' }) z' fun h'' z'' sb => ?_⟩
    have hT2 : h''.get? s.heap.objs.size = some { cls := .type "tuple", data := .seq #[u, u2] } := (sb.2 _ (Nat.ne_of_gt hzl)).trans hT
    have new : ObjOk X.prog X.w (upd H s.heap.objs.size (.tup [x, y])) h'' s.heap.objs.size (.tup [x, y]) := ⟨by show 2 ≤ sizeLine; decide, [u, u2], .cons ru (.cons ru2 .nil), ⟨_, hT2, rfl, _, rfl⟩⟩
    have I1 : Inv X pins σ (upd H s.heap.objs.size (.tup [x, y])) { s with heap := h'' } := I.turnedNew (t' := s.toks) (ch := [z, TI, TO, i1, i2]) (fun c o hb q => by
      simp only [List.mem_cons, List.not_mem_nil, or_false, not_or] at hb
      exact (sb.2 c hb.1).trans (hk c o hb.1 hb.2.2.1 hb.2.2.2.1 hb.2.2.2.2 q)) hf (Nat.le_refl _) new
    refine ⟨.ref s.heap.objs.size, _, I1, rfl, ⟨_, x, y, rfl, I.hok.fresh (Nat.le_refl _), rfl, fun l hl => by rw [q1.inj I hl ra]; exact hx, fun l hl => by rw [q2.inj I hl rb]; exact hy⟩, ⟨z'', (sb.2 _ D.TIz).trans (hk _ _ D.TIz D.TITO D.TIi1 D.TIi2 hTI), ⟨u, u2, (sb.2 _ D.TOz).trans TO'⟩, Z1.stA n1 fun o q => (sb.2 _ D.i1z).trans q, Z2.stA n2 fun o q => (sb.2 _ D.i2z).trans q⟩, fun c hcm => ?_⟩
    have hlt : c < s.heap.objs.size := by
      rcases (show c = z ∨ c = TI ∨ c = TO ∨ c = i1 ∨ c = i2 by simpa using hcm) with rfl | rfl | rfl | rfl | rfl
      · exact hzl
      · exact Heap.lt_size hTI
      · exact Heap.lt_size hTO
      · obtain ⟨_, e1, _⟩ := Z1.obj m1; exact Heap.lt_size e1
      · obtain ⟨_, e2, _⟩ := Z2.obj m2; exact Heap.lt_size e2
    rw [upd_ne (Nat.ne_of_lt hlt)]
    exact (hf c hcm).1
  done := by
    intro X hP hw hK hc i pins s σ H E I hf st hg
    have q1 := Q1 X hK
    have q2 := Q2 X hK
    subst hP hw hK
    obtain ⟨hz, hTI, ⟨x0, y0, hTO⟩, m1, m2⟩ := st
    obtain ⟨xs, ys, ra, rb, hend⟩ := hg
    obtain ⟨its, rv, p⟩ := q1.get I ra
    obtain ⟨its2, rv2, p2⟩ := q2.get I rb
    have n1 := rv.length
    have n2 := rv2.length
    have he : its.toArray[i]? = none ∨ its2.toArray[i]? = none := hend.elim (fun q => .inl (by simp; omega)) fun q => .inr (by simp; omega)
    exact py_zm_end (I.ok.hd hc) Z1 Z2 D hz hTI hTO m1 m2 p p2 he fun h' hk => ⟨rfl, I.turnedL (t' := s.toks) (ch := [z, TI, TO, i1, i2]) (fun c o hb q => by
      simp only [List.mem_cons, List.not_mem_nil, or_false, not_or] at hb
      exact hk c o hb.1 hb.2.2.1 hb.2.2.2.1 hb.2.2.2.2 q) hf⟩
  self := fun A i s Q E st h => wpAny_pyIter_zip st.1 h
/-! zip(x, y) is made -/
abbrev itO (t : String) (l : Addr) : Obj := { cls := .type t, data := .fields #[.ref l, .int 0 0] }
abbrev zm2 (t1 t2 : String) (h : Heap) (l1 l2 : Addr) : Heap := (h.push (itO t1 l1)).push (itO t2 l2)
abbrev zm3 (t1 t2 : String) (h : Heap) (l1 l2 : Addr) : Heap := (zm2 t1 t2 h l1 l2).push { cls := .type "tuple", data := .seq #[.ref h.objs.size, .ref (h.push (itO t1 l1)).objs.size] }
abbrev zm4 (t1 t2 : String) (h : Heap) (l1 l2 : Addr) : Heap := (zm3 t1 t2 h l1 l2).push { cls := .type "tuple", data := .seq #[.none, .none] }
abbrev zm5 (t1 t2 : String) (h : Heap) (l1 l2 : Addr) : Heap := (zm4 t1 t2 h l1 l2).push { cls := .type "zip", data := .fields #[.none, .bool false, .bool false, .ref (zm2 t1 t2 h l1 l2).objs.size, .ref (zm3 t1 t2 h l1 l2).objs.size] }
theorem meets_zTL (l1 l2 : Addr) (xs ys : Array Value) :
    Meets (Builtin.«zip.__new__» ⟨[.type "zip", .ref l1, .ref l2], []⟩) (fun _ R s => s.heap.IsTuple l1 xs ∧ s.heap.IsList l2 ys ∧ R (.ok (.ret (.ref (zm4 "tuple_iterator" "list_iterator" s.heap l1 l2).objs.size))) { s with heap := zm5 "tuple_iterator" "list_iterator" s.heap l1 l2 }) :=
  .of_wp fun prog w A R s h => by
    obtain ⟨hp, g, d, tk, os⟩ := s; obtain ⟨hl1, hl2, h⟩ := h
    have hsub := sub_zip
    have hL1 : Heap.IsTuple (Shared.heap ⟨hp, g, d, tk, os⟩) l1 xs := hl1
    have hL2 : Heap.IsList (Shared.heap ⟨hp.push (itO "tuple_iterator" l1), g, d, tk, os⟩) l2 ys := Heap.IsList.push hl2 _
    wp_walk using wpAny_pyIter_tuple hL1, wpAny_pyIter_list hL2
    exact ⟨_, rfl, h⟩
theorem meets_zLT (l1 l2 : Addr) (xs ys : Array Value) :
    Meets (Builtin.«zip.__new__» ⟨[.type "zip", .ref l1, .ref l2], []⟩) (fun _ R s => s.heap.IsList l1 xs ∧ s.heap.IsTuple l2 ys ∧ R (.ok (.ret (.ref (zm4 "list_iterator" "tuple_iterator" s.heap l1 l2).objs.size))) { s with heap := zm5 "list_iterator" "tuple_iterator" s.heap l1 l2 }) :=
  .of_wp fun prog w A R s h => by
    obtain ⟨hp, g, d, tk, os⟩ := s; obtain ⟨hl1, hl2, h⟩ := h
    have hsub := sub_zip
    have hL1 : Heap.IsList (Shared.heap ⟨hp, g, d, tk, os⟩) l1 xs := hl1
    have hL2 : Heap.IsTuple (Shared.heap ⟨hp.push (itO "list_iterator" l1), g, d, tk, os⟩) l2 ys := Heap.IsTuple.push hl2 _
    wp_walk using wpAny_pyIter_list hL1, wpAny_pyIter_tuple hL2
    exact ⟨_, rfl, h⟩
section
variable {P : Program} {w : World} {A : Around} {E : Value → Shared → Prop} {s : Shared}
/-- what the call leaves -/
def ZmQ (t1 t2 : String) (l1 l2 : Addr) (Q : Value → Shared → Prop) (s : Shared) : Prop :=
  ∀ h', IsZip h' (s.heap.objs.size + 4) (s.heap.objs.size + 2) (s.heap.objs.size + 3) .none → IsPair h' (s.heap.objs.size + 2) (.ref s.heap.objs.size) (.ref (s.heap.objs.size + 1)) → IsPair h' (s.heap.objs.size + 3) .none .none →
    h'.get? s.heap.objs.size = some (itO t1 l1) → h'.get? (s.heap.objs.size + 1) = some (itO t2 l2) → (∀ c o, s.heap.get? c = some o → h'.get? c = some o) → Q (.ref (s.heap.objs.size + 4)) { s with heap := h' }
theorem zm_laid {t1 t2 : String} {l1 l2 : Addr} {Q : Value → Shared → Prop} (h : ZmQ t1 t2 l1 l2 Q s) : Q (.ref (zm4 t1 t2 s.heap l1 l2).objs.size) { s with heap := zm5 t1 t2 s.heap l1 l2 } ∧ Shared.TypeIs { s with heap := zm5 t1 t2 s.heap l1 l2 } (.ref (zm4 t1 t2 s.heap l1 l2).objs.size) "zip" := by
  have z1 : (s.heap.push (itO t1 l1)).objs.size = s.heap.objs.size + 1 := Heap.size_push ..
  have z2 : (zm2 t1 t2 s.heap l1 l2).objs.size = s.heap.objs.size + 2 := by rw [Heap.size_push, z1]
  have z3 : (zm3 t1 t2 s.heap l1 l2).objs.size = s.heap.objs.size + 3 := by rw [Heap.size_push, z2]
  have z4 : (zm4 t1 t2 s.heap l1 l2).objs.size = s.heap.objs.size + 4 := by rw [Heap.size_push, z3]
  have g5 : (zm5 t1 t2 s.heap l1 l2).get? (zm4 t1 t2 s.heap l1 l2).objs.size = some _ := Heap.get?_push_size _ rfl
  have g4 : (zm5 t1 t2 s.heap l1 l2).get? (zm3 t1 t2 s.heap l1 l2).objs.size = some _ := Heap.get?_push_of_some _ (Heap.get?_push_size _ rfl)
  have g3 : (zm5 t1 t2 s.heap l1 l2).get? (zm2 t1 t2 s.heap l1 l2).objs.size = some _ := Heap.get?_push_of_some _ (Heap.get?_push_of_some _ (Heap.get?_push_size _ rfl))
  have g2 : (zm5 t1 t2 s.heap l1 l2).get? (s.heap.push (itO t1 l1)).objs.size = some _ := Heap.get?_push_of_some _ (Heap.get?_push_of_some _ (Heap.get?_push_of_some _ (Heap.get?_push_size _ rfl)))
  have g1 : (zm5 t1 t2 s.heap l1 l2).get? s.heap.objs.size = some _ := Heap.get?_push_of_some _ (Heap.get?_push_of_some _ (Heap.get?_push_of_some _ (Heap.get?_push_of_some _ (Heap.get?_push_size _ rfl))))
  rw [z2, z3, z4] at g5
  rw [z1, z2] at g3
  rw [z3] at g4
  rw [z1] at g2
  rw [z4]
  exact ⟨h _ g5 g3 g4 g1 g2 fun c o x => Heap.get?_push_of_some _ (Heap.get?_push_of_some _ (Heap.get?_push_of_some _ (Heap.get?_push_of_some _ (Heap.get?_push_of_some _ x)))), ⟨_, g5, rfl⟩⟩
theorem call_zTL {l1 l2 : Addr} {xs ys : Array Value} {Q : Value → Shared → Prop} (hl1 : s.heap.IsTuple l1 xs) (hl2 : s.heap.IsList l2 ys) (h : ZmQ "tuple_iterator" "list_iterator" l1 l2 Q s) : wpAny (model P w) A (call (.type "zip") [.ref l1, .ref l2]) Q E s := by
  refine callType_new F.called_zip (by decide) (F.typeCall_zip_2 _ _) (F.newCall_zip_2 _ _) (fun obj => F.args_object_init_3 obj _ _) F.entry_zip_new (meets_zTL l1 l2 xs ys) ⟨hl1, hl2, ?_⟩
  obtain ⟨a, b⟩ := zm_laid h
  exact ⟨b, a⟩
theorem call_zLT {l1 l2 : Addr} {xs ys : Array Value} {Q : Value → Shared → Prop} (hl1 : s.heap.IsList l1 xs) (hl2 : s.heap.IsTuple l2 ys) (h : ZmQ "list_iterator" "tuple_iterator" l1 l2 Q s) : wpAny (model P w) A (call (.type "zip") [.ref l1, .ref l2]) Q E s := by
  refine callType_new F.called_zip (by decide) (F.typeCall_zip_2 _ _) (F.newCall_zip_2 _ _) (fun obj => F.args_object_init_3 obj _ _) F.entry_zip_new (meets_zLT l1 l2 xs ys) ⟨hl1, hl2, ?_⟩
  obtain ⟨a, b⟩ := zm_laid h
  exact ⟨b, a⟩
end
section
variable {X : Cx}
def iZip4 (K : PySem.W.Frag) (ta : TA) : TI := fun σ H R => ta σ H fun vs H1 => ∃ a b xs ys, vs = [.ref a, .ref b] ∧ ((SqL K H1 a xs ∧ SqL K H1 b ys ∧ R (Itz K a b) H1) ∨ (SqT K H1 a xs ∧ SqT K H1 b ys ∧ R (RZ.ItzT K a b) H1) ∨
  (SqT K H1 a xs ∧ SqL K H1 b ys ∧ R (ItzM K (SqT K) (SqL K) a b) H1) ∨ (SqL K H1 a xs ∧ SqT K H1 b ys ∧ R (ItzM K (SqL K) (SqT K) a b) H1))
theorem pi_zip4 {e e2 : Expr} {ta : TA} {p pos tpos : Pos} {elts : List Expr} {kk : Nat} (hg : Gl X "zip") (hm : X.mg "zip" = none) (ha : PA X [e, e2] ta)
    (hs : starEach [e, e2] X.env = (false, eval e X.env) :: starEach [e2] X.env) (hpl : (backTo pos (starEach [e2] X.env)).any (·.1) = false) :
    PI X (.Tuple elts kk tpos) (.Call (.Name "zip" p) [e, e2] [] pos) (iZip4 X.K ta) := by
  refine ⟨fun pins s σ H R I h => ?_⟩
  refine Call_ (ld_blt I hg hm PyProof.Rows.boot_zip (PyProof.Rows.callWith_type1 (thn (ha.run pos pins s σ H _ I h) fun us s1 ⟨vs, H1, I1, r1, q1⟩ => ?_) hs hpl))
  obtain ⟨a, b, xs, ys, ex, q1⟩ := q1
  subst ex
  cases r1 with
  | cons r rr =>
    cases rr with
    | cons r' rr =>
      cases rr
      cases r
      cases r'
      have fresh5 : ∀ c, c ∈ [s1.heap.objs.size + 4, s1.heap.objs.size + 2, s1.heap.objs.size + 3, s1.heap.objs.size, s1.heap.objs.size + 1] → FpOk X pins H1 c := fun c hcm => by
        have hle : s1.heap.objs.size ≤ c := by simp only [List.mem_cons, List.not_mem_nil, or_false] at hcm; omega
        exact I1.fpOk hle (I1.hok.fresh hle)
      rcases q1 with ⟨hqx, hqy, q⟩ | ⟨hqx, hqy, q⟩ | ⟨ra, rb, q⟩ | ⟨ra, rb, q⟩
      · obtain ⟨its, rv, p1, _⟩ := I1.list hqx
        obtain ⟨its2, rv2, p2, _⟩ := I1.list hqy
        refine call_zip_2 p1.isList p2.isList fun h' hz hTI hTO h1 h2 hsz hk => wpAny_pyIter_zip hz ?_
        have I2 : Inv X pins σ H1 { s1 with heap := h' } := I1.kept (t' := s1.toks) hk
        exact ⟨s1.heap.objs.size + 4, _, _, _, H1, rfl, I2, turn_zip (PySem.W.ktu_apart s1.heap.objs.size a b p1.lt p2.lt), ⟨hz, hTI, ⟨_, _, hTO⟩, h1, h2⟩, fresh5, q⟩
      · obtain ⟨its, rv, p1, _⟩ := I1.tuple hqx
        obtain ⟨its2, rv2, p2, _⟩ := I1.tuple hqy
        obtain ⟨o1, ho1, _⟩ := id p1
        obtain ⟨o2, ho2, _⟩ := id p2
        refine RZ.call_zipT (show s1.heap.IsTuple a its.toArray from p1) (show s1.heap.IsTuple b its2.toArray from p2) fun h' hz hTI hTO h1 h2 hsz hk => wpAny_pyIter_zip hz ?_
        have I2 : Inv X pins σ H1 { s1 with heap := h' } := I1.kept (t' := s1.toks) hk
        exact ⟨s1.heap.objs.size + 4, _, _, _, H1, rfl, I2, RZ.turn_zipT (PySem.W.ktu_apart s1.heap.objs.size a b (Heap.lt_size ho1) (Heap.lt_size ho2)), ⟨hz, hTI, ⟨_, _, hTO⟩, h1, h2⟩, fresh5, q⟩
      · obtain ⟨its, rv, p1, _⟩ := I1.tuple ra
        obtain ⟨its2, rv2, p2, _⟩ := I1.list rb
        obtain ⟨o1, ho1, _⟩ := id p1
        refine call_zTL (show s1.heap.IsTuple a its.toArray from p1) p2.isList fun h' hz hTI hTO m1 m2 hk => wpAny_pyIter_zip hz ?_
        have I2 : Inv X pins σ H1 { s1 with heap := h' } := I1.kept (t' := s1.toks) hk
        exact ⟨s1.heap.objs.size + 4, _, _, _, H1, rfl, I2, turn_zm (R1 := SqT) (R2 := SqL) (C1 := fun a xs h => h.IsTuple a xs) (C2 := fun a xs h => h.IsList a xs) (S1 := fun i a k h => h.IsTupleIter i a k) (S2 := fun i a k h => h.IsListIter i a k) (fun Y e => e ▸ zr_tup Y) (fun Y e => e ▸ zr_list Y) (zs_tup _ _ _ _) (zs_list _ _ _ _) (PySem.W.ktu_apart s1.heap.objs.size a b (Heap.lt_size ho1) p2.lt), ⟨hz, hTI, ⟨_, _, hTO⟩, ⟨_, m1, rfl, rfl⟩, ⟨_, m2, rfl, rfl⟩⟩, fresh5, q⟩
      · obtain ⟨its, rv, p1, _⟩ := I1.list ra
        obtain ⟨its2, rv2, p2, _⟩ := I1.tuple rb
        obtain ⟨o2, ho2, _⟩ := id p2
        refine call_zLT p1.isList (show s1.heap.IsTuple b its2.toArray from p2) fun h' hz hTI hTO m1 m2 hk => wpAny_pyIter_zip hz ?_
        have I2 : Inv X pins σ H1 { s1 with heap := h' } := I1.kept (t' := s1.toks) hk
        exact ⟨s1.heap.objs.size + 4, _, _, _, H1, rfl, I2, turn_zm (R1 := SqL) (R2 := SqT) (C1 := fun a xs h => h.IsList a xs) (C2 := fun a xs h => h.IsTuple a xs) (S1 := fun i a k h => h.IsListIter i a k) (S2 := fun i a k h => h.IsTupleIter i a k) (fun Y e => e ▸ zr_list Y) (fun Y e => e ▸ zr_tup Y) (zs_list _ _ _ _) (zs_tup _ _ _ _) (PySem.W.ktu_apart s1.heap.objs.size a b p1.lt (Heap.lt_size ho2)), ⟨hz, hTI, ⟨_, _, hTO⟩, ⟨_, m1, rfl, rfl⟩, ⟨_, m2, rfl, rfl⟩⟩, fresh5, q⟩
end
section
variable {G : GX} {m0 : List Addr} {H0 : Hp} {q q2 : List W × Gu × Bool} {a b : Addr} {ts : List IG}
theorem itzTL_ok (h1 : AtT G m0 H0 q a) (h2 : AtL G m0 H0 q2 b) : ItOk G (.tup ts) m0 H0 (ItzM G.K (SqT G.K) (SqL G.K) a b) ((q.1.zip q2.1).map fun z => .tup [z.1, z.2], q.2.1 ++ q2.2.1) := fun i m H hw n rh g => by
  obtain ⟨vs, s, r⟩ := h1 m H hw n rh
  obtain ⟨us, s2, r2⟩ := h2 m H hw n rh fun p hp => g p (List.mem_append_right _ hp)
  refine ⟨fun w hw => ?_, fun hl => ⟨vs, us, s, s2, ?_⟩⟩
  · obtain ⟨x, y, e1, e2, rfl⟩ := zip_get hw
    obtain ⟨v, hv, rv⟩ := r.get e1
    obtain ⟨u, hu, ru⟩ := r2.get e2
    refine ⟨⟨vs, us, v, u, s, s2, hv, hu⟩, fun x' H' y' => ?_⟩
    obtain ⟨T, v', u', rfl, nT, rfl, f1, f2⟩ := y'
    cases (f1 vs s).symm.trans hv
    cases (f2 us s2).symm.trans hu
    exact pair_ok rh nT rv ru
  · rw [← r.len, ← r2.len]
    simp only [List.length_map, List.length_zip] at hl
    omega
theorem itzLT_ok (h1 : AtL G m0 H0 q a) (h2 : AtT G m0 H0 q2 b) : ItOk G (.tup ts) m0 H0 (ItzM G.K (SqL G.K) (SqT G.K) a b) ((q.1.zip q2.1).map fun z => .tup [z.1, z.2], q.2.1 ++ q2.2.1) := fun i m H hw n rh g => by
  obtain ⟨vs, s, r⟩ := h1 m H hw n rh fun p hp => g p (List.mem_append_left _ hp)
  obtain ⟨us, s2, r2⟩ := h2 m H hw n rh
  refine ⟨fun w hw => ?_, fun hl => ⟨vs, us, s, s2, ?_⟩⟩
  · obtain ⟨x, y, e1, e2, rfl⟩ := zip_get hw
    obtain ⟨v, hv, rv⟩ := r.get e1
    obtain ⟨u, hu, ru⟩ := r2.get e2
    refine ⟨⟨vs, us, v, u, s, s2, hv, hu⟩, fun x' H' y' => ?_⟩
    obtain ⟨T, v', u', rfl, nT, rfl, f1, f2⟩ := y'
    cases (f1 vs s).symm.trans hv
    cases (f2 us s2).symm.trans hu
    exact pair_ok rh nT rv ru
  · rw [← r.len, ← r2.len]
    simp only [List.length_map, List.length_zip] at hl
    omega
end
section
variable {X : Cx} {cl : List Value} {Wx : WX} {e e2 : Expr} {el el2 : En → Hw → Res (List W × Gu × Bool)} {ts : List IG} {p pos tpos : Pos}
/-- the list that a source told still stands a step later -/
theorem src_still {m m2 : List Addr} {H1 H2 : Hp} {q : List W × Gu × Bool} {a : Addr} (hk : q.2.2 = false) (s : Src X.K H1 m q (.ref a)) (n : Nx m H1 m2 H2) : ∃ vs, SqL X.K H2 a vs := by
  obtain ⟨_, vs, e', r, s3⟩ := s
  cases e'
  rcases s3 with ⟨_, k'⟩ | ⟨_, s3 | s3 | ⟨i, e1, s3, _⟩⟩
  · rw [hk] at k'; cases k'
  · exact ⟨vs, (s3.mono n).sq⟩
  · exact ⟨vs, .of (s3.mono n).1⟩
  · obtain ⟨vs', f⟩ := n.kd _ _ s3
    exact ⟨vs', .of f⟩
theorem s_zip4 {elts : List Expr} {kk : Nat} (hg : Gl X "zip") (hm : X.mg "zip" = none) (he : PE X e (tL (gx X cl) Wx el)) (he2 : PE X e2 (tL (gx X cl) Wx el2))
    (hs : starEach [e, e2] X.env = (false, eval e X.env) :: starEach [e2] X.env) (hs2 : starEach [e2] X.env = [(false, eval e2 X.env)]) :
    PI X (.Tuple elts kk tpos) (.Call (.Name "zip" p) [e, e2] [] pos) (tI (gx X cl) (.tup ts) Wx fun ρ h => (el ρ h).bind fun p h => (el2 ρ h).bind fun q h => .ok ((p.1.zip q.1).map fun z => .tup [z.1, z.2], p.2.1 ++ q.2.1) h) :=
  conseqI (pi_zip4 hg hm (pa_cons he (s_one1 he2 hs2) hs) hs (by rw [hs2]; rfl)) fun σ H R z => tR.bind z fun m ρ q v h H1 rs rh s z1 => tR.next rs rh z1 fun m2 q2 v2 h2 H2 n rs2 rh2 s2 z2 => by
    obtain ⟨a, rfl, t1⟩ := src_at (G := gx X cl) s
    obtain ⟨b, rfl, t2⟩ := src_at (G := gx X cl) s2
    cases hp : q.2.2 with
    | true =>
      rcases t1 with ⟨_, at1⟩ | ⟨k, _⟩
      · obtain ⟨vs, sq, _⟩ := at1 m2 H2 h2 n rh2
        cases hq : q2.2.2 with
        | true =>
          rcases t2 with ⟨_, at2⟩ | ⟨k, _⟩
          · obtain ⟨us, sq2, _⟩ := at2 m2 H2 h2 .refl rh2
            exact ⟨a, b, vs, us, rfl, .inr (.inl ⟨sq, sq2, z2.here rh2 (itzT_ok (atT_of n at1) at2)⟩)⟩
          · rw [hq] at k; cases k
        | false =>
          rcases t2 with ⟨k, _⟩ | ⟨_, at2⟩
          · rw [hq] at k; cases k
          · obtain ⟨b', us, e', sq2⟩ := src_lst s2 hq
            cases e'
            exact ⟨a, b, vs, us, rfl, .inr (.inr (.inl ⟨sq, sq2, z2.here rh2 (itzTL_ok (atT_of n at1) at2)⟩))⟩
      · rw [hp] at k; cases k
    | false =>
      rcases t1 with ⟨k, _⟩ | ⟨_, at1⟩
      · rw [hp] at k; cases k
      · obtain ⟨vs, sq⟩ := src_still hp s n
        cases hq : q2.2.2 with
        | true =>
          rcases t2 with ⟨_, at2⟩ | ⟨k, _⟩
          · obtain ⟨us, sq2, _⟩ := at2 m2 H2 h2 .refl rh2
            exact ⟨a, b, vs, us, rfl, .inr (.inr (.inr ⟨sq, sq2, z2.here rh2 (itzLT_ok (at_of n at1) at2)⟩))⟩
          · rw [hq] at k; cases k
        | false =>
          rcases t2 with ⟨k, _⟩ | ⟨_, at2⟩
          · rw [hq] at k; cases k
          · obtain ⟨b', us, e', sq2⟩ := src_lst s2 hq
            cases e'
            exact ⟨a, b, vs, us, rfl, .inl ⟨sq, sq2, z2.here rh2 (itz_ok (at_of n at1) at2)⟩⟩
end
end Ev

set_option Elab.async false
set_option linter.all false
set_option maxRecDepth 100000
set_option maxHeartbeats 4000000
/-! EvR: tuple(reversed(tuple)), which the kit lacks (it has it of a list). -/
namespace Ev
open PySem PySem.Spec PyProof.Rows L2
theorem nolen_rt : typeLookup (.type "reversed") "__len__" = pure none := by rw [typeLookup_type, builtinLookup_eq_fast]; kernel_rfl
theorem hint_rt : typeLookup (.type "reversed") "__length_hint__" = pure (some (.builtin "reversed.__length_hint__")) := by rw [typeLookup_type, builtinLookup_eq_fast]; kernel_rfl
theorem tup_at {h h' : Heap} {t : Addr} {items : Array Value} (x : IsTup h t items) (e : ∀ o, h.get? t = some o → h'.get? t = some o) : IsTup h' t items := let ⟨o, ho, r⟩ := x; ⟨o, e _ ho, r⟩
theorem slot_rt_hint : Slot "reversed" "__length_hint__" "reversed.__length_hint__" :=
  .of (owner := "reversed") (n := "__length_hint__") (by rw [typeLookup_type, builtinLookup_eq_fast]; kernel_rfl) (by decide +kernel) (by decide +kernel) (by decide +kernel)
    (by first | exact .inl (by decide +kernel) | exact .inr (by decide +kernel)) (by rw [isSubtype_type]; kernel_rfl)
theorem entry_rt_hint : entryFor table "reversed.__length_hint__" = some Builtin.«reversed.__length_hint__» := entryFor_of_tree (by kernel_rfl)
theorem args_rt_hint (a : Value) : argsOk "reversed.__length_hint__" ⟨[a], []⟩ := by
  unfold argsOk; rw [signature?_of (id := "reversed.__length_hint__") (n := ['_', '_', 't', 'n', 'i', 'h', '_', 'h', 't', 'g', 'n', 'e', 'l', '_', '_']) (o := ['d', 'e', 's', 'r', 'e', 'v', 'e', 'r']) (by kernel_rfl) RT.owner_rt]; kernel_rfl
section
variable {prog : Program} {w : World} {A : Around} {E : Value → Shared → Prop} {s : Shared}
theorem call_hint {it t : Addr} {n : Nat} {items : Array Value} {Q : Value → Shared → Prop} (hit : RT.IsRt s.heap it t ((n : Int) - 1)) (ht : IsTup s.heap t items) (hz : items.size ≤ sizeLine) (hn : n = items.size)
    (h : ∀ t1 tk, Q (.int (n : Int) t1) { s with toks := tk }) : wpAny (model prog w) A (call (.builtin "reversed.__length_hint__") [.ref it]) Q E s := by
  obtain ⟨oi, hoi, hci, hdi⟩ := id hit
  obtain ⟨oc, od, oda, osl⟩ := oi
  simp only at hci hdi
  subst hci; subst hdi
  refine wpAny_call_entry slot_rt_hint hit.typeIs entry_rt_hint ?_ (args_rt_hint _)
  show wpAny _ _ (field (.ref it) 0 >>= _) _ _ _
  refine wpAny_bind (wpAny_field hoi rfl (x := .ref t) rfl ?_)
  try dsimp only
  refine wpAny_bind (len_tuple ht (by rw [sizeLine_eq] at hz; omega) ?_)
  refine wpAny_bind (wpAny_of_eq (a := some ((items.size : Nat) : Int)) rfl ?_)
  try dsimp only
  refine wpAny_bind (wpAny_field (s := { s with toks := s.toks + 1 + 1 }) hoi rfl (x := rawInt ((n : Int) - 1)) rfl ?_)
  show wpAny _ _ (if ((items.size : Nat) : Int) < ((n : Int) - 1) + 1 then _ else _) _ _ _
  rw [if_neg (by omega)]
  have e1 : ((n : Int) - 1) + 1 = (n : Int) := by omega
  rw [e1]
  unfold retInt
  refine wpAny_bind (wpAny_mkInt ?_)
  exact wpAny_pure ⟨_, rfl, h _ _⟩
end
theorem walks_rt {prog : Program} {w : World} {A : Around} (hh : A.handled = none) (I t : Addr) (hne : t ≠ I) (items : Array Value) (hsz : items.size ≤ sizeLine) :
    Walks prog w A I [I, t] [I] items.size (fun i v => items[items.size - 1 - i]? = some v) (fun i h => i ≤ items.size ∧ RT.IsRt h I t ((items.size : Int) - 1 - (i : Int)) ∧ IsTup h t items) where
  sub := fun b hb => by simp at hb; simp [hb]
  frame := fun _ _ _ x hk => ⟨x.1, x.2.1.at fun o e => hk I (by simp) o e, tup_at x.2.2 fun o e => hk t (by simp) o e⟩
  item := fun i s Q E hi x hQ => by
    have e : (items.size : Int) - 1 - (i : Int) = ((items.size - 1 - i : Nat) : Int) := by omega
    have hit := x.2.1
    rw [e] at hit
    have hx : items[items.size - 1 - i]? = some (items[items.size - 1 - i]'(by omega)) := Array.getElem?_eq_getElem (by omega)
    refine RT.next_rt_item hit x.2.2 hx hsz fun h' hit' hs' => ?_
    have e2 : ((items.size - 1 - i : Nat) : Int) - 1 = (items.size : Int) - 1 - ((i + 1 : Nat) : Int) := by omega
    rw [e2] at hit'
    exact hQ _ h' (s.toks + 1) hx ⟨hi, hit', tup_at x.2.2 fun o eo => (hs'.2 t hne).trans eo⟩ fun b o hb eo => hs'.extBut b o (fun h => hb (by simp [h])) eo
  done := fun s Q E x hQ => by
    have e : (items.size : Int) - 1 - (items.size : Int) = -1 := by omega
    have hit := x.2.1
    rw [e] at hit
    exact RT.next_rt_end hh hit fun h' he' => hQ h' s.toks fun b o hb eo => he' b o (fun h => hb (by simp [h])) eo
  self := fun _ _ _ _ x hQ => RT.iter_rt x.2.1 hQ
section
variable {prog : Program} {w : World} {A : Around} {E : Value → Shared → Prop} {s : Shared}
theorem collect_rt {it l : Addr} {items : Array Value} {Q : List Value → Shared → Prop} (hh : A.handled = none) (hit : RT.IsRt s.heap it l ((items.size : Int) - 1)) (hl : IsTup s.heap l items) (hne : l ≠ it) (hn : items.size ≤ sizeLine)
    (hQ : ∀ (h' : Heap) (tk : Nat) (acc : Array Value), (∀ b o, b ≠ it → s.heap.get? b = some o → h'.get? b = some o) → ItemsOf (fun i v => items[items.size - 1 - i]? = some v) acc items.size → Q acc.toList { s with heap := h', toks := tk }) :
    wpAny (model prog w) A (collect (.ref it)) Q E s := by
  have W := (walks_rt (prog := prog) (w := w) (A := A.in1) hh it l hne items hn).toS
  obtain ⟨oi, hoi, _⟩ := id hit
  obtain ⟨ol, hol, _⟩ := id hl
  have hSi : s.heap.objs.size ≠ it := Nat.ne_of_gt (Heap.lt_size hoi)
  have hSl : s.heap.objs.size ≠ l := Nat.ne_of_gt (Heap.lt_size hol)
  have hSf : s.heap.objs.size ∉ [it, l] := by simp only [List.mem_cons, List.not_mem_nil, or_false, not_or]; exact ⟨hSi, hSl⟩
  unfold collect
  refine wpAny_bind (wpAny_runValue (codeAny_builtin F.entry_proto_collect ?_))
  rw [Around.under_plainId F.plain_proto_collect _]
  show wpAny _ A.in1 (newList [] >>= fun l' => again (.builtin "list.__iadd__" ⟨[l', .ref it], []⟩)) _ _ s
  refine wpAny_bind (wpAny_newObj_type ?_)
  refine wpAny_pure ⟨plainId_quiet F.plain_list_iadd _, codeAny_builtin F.entry_list_iadd ?_⟩
  rw [Around.under_plainId F.plain_list_iadd _]
  have hS₁ : (s.heap.push { cls := .type "list", data := .seq ([] : List Value).toArray }).get? s.heap.objs.size = some { cls := .type "list", data := .seq ([] : List Value).toArray } := Heap.get?_push_size _ rfl
  have hit1 : RT.IsRt (s.heap.push { cls := .type "list", data := .seq ([] : List Value).toArray }) it l ((items.size : Int) - 1) := hit.at fun o e => Heap.get?_push_of_some _ e
  have hl1 : IsTup (s.heap.push { cls := .type "list", data := .seq ([] : List Value).toArray }) l items := tup_at hl fun o e => Heap.get?_push_of_some _ e
  have hT : ({ s with heap := s.heap.push { cls := .type "list", data := .seq ([] : List Value).toArray } } : Shared).TypeIs (.ref it) "reversed" := RT.IsRt.typeIs (s := { s with heap := s.heap.push { cls := .type "list", data := .seq ([] : List Value).toArray } }) hit1
  have h1 : Builtin.List.listSameRef (.ref s.heap.objs.size) (.ref it) = false := by simp [Builtin.List.listSameRef, hSi]
  show wpAny _ A.in1 (Builtin.List.listExtendWith (.ref s.heap.objs.size) (.ref it) (.ref s.heap.objs.size)) _ _ _
  unfold Builtin.List.listExtendWith
  refine wpAny_bind (wpAny_typeOf hT ?_)
  rw [if_neg (by rw [h1]; decide)]
  refine wpAny_bind (RT.iter_rt (s := { s with heap := s.heap.push { cls := .type "list", data := .seq ([] : List Value).toArray } }) hit1 ?_)
  refine wpAny_bind (wpAny_holding ?_)
  unfold Builtin.List.listLengthHint
  refine wpAny_bind (wpAny_specialOf hT nolen_rt ?_)
  show wpAny _ A.in1 (specialOf (Value.ref it) (Str.ofString "__length_hint__") >>= _) _ _ _
  refine wpAny_bind (wpAny_specialOf hT hint_rt ?_)
  generalize hid : ("reversed.__length_hint__" : String) = id0
  wp_delta
  rw [show splitId id0 = some ("reversed", "__length_hint__") from by subst hid; decide +kernel]
  subst hid
  refine wpAny_bind (wpAny_isInstance (b := true) hT (by rw [isSubtype_type]; kernel_rfl) ?_)
  rw [if_neg (by decide)]
  split
  · rename_i c
    exact absurd c (by decide +kernel)
  refine wpAny_bind (wpAny_rule ?_)
  simp only [slot_rt_hint.bind]
  refine wpAny_bind (wpAny_pure ?_)
  refine wpAny_bind (wpAny_attempt (call_hint (n := items.size) (s := { s with heap := s.heap.push { cls := .type "list", data := .seq ([] : List Value).toArray } }) hit1 hl1 hn rfl fun t1 tk => ?_))
  show wpAny (model prog w) A.in1 (asInt? (Value.int (items.size : Int) t1) >>= _) _ _ _
  have ea : asInt? (Value.int ((items.size : Nat) : Int) t1) = pure (some ((items.size : Nat) : Int)) := by unfold asInt?; rfl
  refine wpAny_bind ?_
  rw [ea]
  refine wpAny_pure ?_
  have z2 : items.size ≤ 16777216 := by rw [sizeLine_eq] at hn; omega
  have c1 : ¬ (!Builtin.List.listFitsIndex ((items.size : Nat) : Int)) = true := by
    have : Builtin.List.listFitsIndex ((items.size : Nat) : Int) = true := by
      unfold Builtin.List.listFitsIndex
      rw [Bool.and_eq_true]
      exact ⟨decide_eq_true (by omega), decide_eq_true (by omega)⟩
    rw [this]; decide
  have c2 : ¬ (((items.size : Nat) : Int) < 0) := by omega
  have c3 : ¬ Builtin.List.listTooLong ((items.size : Nat) : Int).toNat = true := by
    unfold Builtin.List.listTooLong
    rw [Int.toNat_natCast]
    exact fun z => by have := of_decide_eq_true z; omega
  show wpAny _ _ (if (!Builtin.List.listFitsIndex ((items.size : Nat) : Int)) = true then _ else _) _ _ _
  rw [if_neg c1, if_neg c2, if_neg c3]
  refine wpAny_pure ?_
  have e0 : ((items.size : Nat) : Int) - 1 - ((0 : Nat) : Int) = (items.size : Int) - 1 := by omega
  have kp1 : ∀ b o, s.heap.get? b = some o → (s.heap.push { cls := .type "list", data := .seq ([] : List Value).toArray }).get? b = some o := fun b o e => Heap.get?_push_of_some _ e
  split
  · refine wpAny_bind (wpAny_rule ?_)
    have hS2 := get?_update_seq (n := 0) hS₁ (fun xs => xs.push Value.none)
    have hS3 := get?_update_seq hS2 (fun xs => xs.pop)
    have kp2 : ∀ b o, s.heap.get? b = some o → (((s.heap.push { cls := .type "list", data := .seq ([] : List Value).toArray }).update s.heap.objs.size (Obj.mapSeq fun xs => xs.push Value.none)).update s.heap.objs.size (Obj.mapSeq fun xs => xs.pop)).get? b = some o := fun b o e => by
      have hb : b ≠ s.heap.objs.size := Nat.ne_of_lt (Heap.lt_size e)
      rw [Heap.get?_update_ne _ _ _ _ hb, Heap.get?_update_ne _ _ _ _ hb]
      exact kp1 b o e
    have hit2 : RT.IsRt (((s.heap.push { cls := .type "list", data := .seq ([] : List Value).toArray }).update s.heap.objs.size (Obj.mapSeq fun xs => xs.push Value.none)).update s.heap.objs.size (Obj.mapSeq fun xs => xs.pop)) it l ((items.size : Int) - 1) := hit.at fun o e => kp2 _ o e
    have hl2 : IsTup (((s.heap.push { cls := .type "list", data := .seq ([] : List Value).toArray }).update s.heap.objs.size (Obj.mapSeq fun xs => xs.push Value.none)).update s.heap.objs.size (Obj.mapSeq fun xs => xs.pop)) l items := tup_at hl fun o e => kp2 _ o e
    refine wpAny_bind ?_
    unfold Builtin.List.listTouch
    refine wpAny_bind (listUpdate_at hS₁ rfl ?_ (Nat.zero_le _) (by show 1 ≤ sizeLine + 1; omega))
    refine listUpdate_at hS2 rfl ?_ (by show 1 ≤ sizeLine; rw [sizeLine_eq]; decide) (by show 0 ≤ sizeLine + 1; omega)
    refine wpAny_pure ⟨plainId_quiet F.plain_extend_loop _, codeAny_extend_loopS W hn _ hSf _ items.size 0 _ _ _ rfl (Nat.zero_le _) ⟨Nat.zero_le _, by rw [e0]; exact hit2, hl2⟩ hS3 (ItemsOf.nil _) fun s' acc' c' hm hS' hacc => ?_⟩
    show wpAny _ A (load s.heap.objs.size >>= _) _ _ s'
    refine wpAny_bind (wpAny_load hS' ?_)
    refine wpAny_pure ?_
    rw [Moved.eq_with hm]
    refine hQ s'.heap s'.toks acc' (fun b o hb e => hm.heap b o (fun hmem => ?_) (kp2 b o e)) hacc
    rcases List.mem_cons.mp hmem with e' | hmem
    · exact absurd (Heap.lt_size e) (by rw [e']; exact Nat.lt_irrefl _)
    · exact hb (List.mem_singleton.mp hmem)
  · skip
    refine wpAny_pure ⟨plainId_quiet F.plain_extend_loop _, codeAny_extend_loopS W hn _ hSf _ items.size 0 _ _ _ rfl (Nat.zero_le _) ⟨Nat.zero_le _, by rw [e0]; exact hit1, hl1⟩ hS₁ (ItemsOf.nil _) fun s' acc' c' hm hS' hacc => ?_⟩
    show wpAny _ A (load s.heap.objs.size >>= _) _ _ s'
    refine wpAny_bind (wpAny_load hS' ?_)
    refine wpAny_pure ?_
    rw [Moved.eq_with hm]
    refine hQ s'.heap s'.toks acc' (fun b o hb e => hm.heap b o (fun hmem => ?_) (kp1 b o e)) hacc
    rcases List.mem_cons.mp hmem with e' | hmem
    · exact absurd (Heap.lt_size e) (by rw [e']; exact Nat.lt_irrefl _)
    · exact hb (List.mem_singleton.mp hmem)
theorem code_tuple_new_rt {it l : Addr} {items : Array Value} {Q₁ : Value → Shared → Prop} (hh : A.handled = none) (hit : RT.IsRt s.heap it l ((items.size : Int) - 1)) (hl : IsTup s.heap l items) (hne : l ≠ it) (hn : items.size ≤ sizeLine)
    (h : ∀ (h' : Heap) (tk : Nat) (acc : Array Value), (∀ b o, b ≠ it → s.heap.get? b = some o → h'.get? b = some o) → ItemsOf (fun i v => items[items.size - 1 - i]? = some v) acc items.size →
      Q₁ (.ref h'.objs.size) { s with heap := h'.push { cls := .type "tuple", data := .seq acc }, toks := tk }) :
    codeAny (model prog w) A (.call (.builtin "tuple.__new__") ⟨[.type "tuple", .ref it], []⟩) (wants Q₁ E) s := by
  refine codeAny_of_tree ?_
  show wpAny _ A.in1 (do checkBuiltinCall "tuple.__new__" ⟨[.type "tuple", .ref it], []⟩; again (.builtin "tuple.__new__" ⟨[.type "tuple", .ref it], []⟩)) _ _ s
  refine wpAny_bind (wpAny_of_eq (F.newCall_tuple_1 _) (wpAny_pure ⟨plainId_quiet F.plain_tuple_new _, codeAny_builtin F.entry_tuple_new ?_⟩))
  rw [Around.under_plainId F.plain_tuple_new _]
  have hsub := sub_tuple_self
  have hinit := init_tuple_lookup
  have hmh := madeHere_tuple
  have hTI : s.TypeIs (.ref it) "reversed" := hit.typeIs
  have hh1 : A.in1.handled = none := hh
  wp_walk using wpAny_typeOf hTI, collect_rt (A := A.in1) hh1 hit hl hne hn
  intro h' tk acc hk hacc
  show wpAny _ _ (Builtin.Tuple.tupleExact acc.toList.toArray >>= fun v => ret v) _ _ _
  unfold Builtin.Tuple.tupleExact
  refine wpAny_bind (wpAny_newObj_type ?_ (by show acc.toList.toArray.size ≤ sizeLine; simp only [Array.toArray_toList]; rw [hacc.1]; exact hn))
  refine wpAny_pure ?_
  have e : acc.toList.toArray = acc := by simp
  rw [e]
  exact h h' tk acc hk hacc
theorem call_tuple_rt {it l : Addr} {items : Array Value} {Q : Value → Shared → Prop} (hh : A.handled = none) (hit : RT.IsRt s.heap it l ((items.size : Int) - 1)) (hl : IsTup s.heap l items) (hne : l ≠ it) (hn : items.size ≤ sizeLine)
    (hQ : ∀ (h' : Heap) (tk : Nat) (acc : Array Value), (∀ b o, b ≠ it → s.heap.get? b = some o → h'.get? b = some o) → ItemsOf (fun i v => items[items.size - 1 - i]? = some v) acc items.size →
      Q (.ref h'.objs.size) { s with heap := h'.push { cls := .type "tuple", data := .seq acc }, toks := tk }) :
    wpAny (model prog w) A (call (.type "tuple") [.ref it]) Q E s := by
  refine callType_codes (Q₁ := fun obj s₁ => s₁.TypeIs obj "tuple" ∧ Q obj s₁) F.called_tuple (F.typeCall_tuple_1 _) F.entry_object_init
    (code_tuple_new_rt (A := A.in1) hh hit hl hne hn fun h' tk acc hk hacc => ⟨⟨_, Heap.get?_push_size _ rfl, rfl⟩, hQ h' tk acc hk hacc⟩) fun obj s₁ h₁ => ?_
  exact ⟨h₁.1, F.args_object_init_2 obj _, object_init_meets F.called_tuple.init.lookup F.called_tuple.made (by decide) prog w A.in1 _ s₁ ⟨h₁.1, rfl, h₁.2⟩⟩
end
section
variable {X : Cx} {pos p : Pos} {e : Expr}
/-- tuple(reversed(tuple or list)) -/
def tTupRevA (K : PySem.W.Frag) (te : TE) : TE := fun σ H Q => te σ H fun v H1 => ∃ (a : Addr) (xs : List V), v = .ref a ∧ (SqL K H1 a xs ∨ SqT K H1 a xs) ∧ NewT xs.reverse H1 Q
theorem pe_tupRevA {te : TE} {p2 pos2 : Pos} (hc : X.calm = true) (hg : Gl X "tuple") (hm : X.mg "tuple" = none) (hg2 : Gl X "reversed") (hm2 : X.mg "reversed" = none) (he : PE X e te)
    (s1 : starEach [e] X.env = (false, eval e X.env) :: starEach [] X.env) (s2 : starEach [Expr.Call (.Name "reversed" p2) [e] [] pos2] X.env = (false, eval (.Call (.Name "reversed" p2) [e] [] pos2) X.env) :: starEach [] X.env) :
    PE X (.Call (.Name "tuple" p) [.Call (.Name "reversed" p2) [e] [] pos2] [] pos) (tTupRevA X.K te) :=
  ⟨fun pins s σ H Q I h => Call_ (ld_blt I hg hm boot_tuple (PyProof.Rows.callWith_type1 (args_cons (Call_ (ld_blt I hg2 hm2 PyProof.Rows.boot_reversed (PyProof.Rows.callWith_type1 (args_cons (thn (he.run pins s σ H _ I h) fun u t1 ⟨v, K1, J, r1, a, xs, ev, hq, q⟩ => args_nil (by
    subst ev
    obtain rfl : u = Value.ref a := r1
    rcases hq with hq | hq
    · obtain ⟨its, rv, pl, hz⟩ := J.list hq
      refine call_reversed_list pl.isList (args_nil ?_)
      have J2 : Inv X pins σ K1 { t1 with heap := t1.heap.push (revObj a ((its.toArray.size : Int) - 1)) } := J.kept (t' := t1.toks) fun b o e => Heap.get?_push_of_some _ e
      obtain ⟨f0, f1, f2, f3, f4, f5⟩ := J.fpOk (H' := K1) (b := t1.heap.objs.size) (Nat.le_refl _) (J.hok.fresh (Nat.le_refl _))
      obtain ⟨ol, hol, _⟩ := id pl.isList
      refine RT.call_tuple_rev (s := { t1 with heap := t1.heap.push (revObj a ((its.toArray.size : Int) - 1)) }) (J.ok.hd hc) ⟨_, Heap.get?_push_size _ rfl, rfl, rfl⟩ (pl.isList.push _) (Nat.ne_of_lt (Heap.lt_size hol)) (by rw [List.size_toArray, ← rv.length]; exact hz) fun h2 tk2 acc hk hi => ?_
      have J3 : Inv X pins σ K1 { t1 with heap := h2, toks := tk2 } := J2.turned (t' := tk2) (fun b o hb e => hk b o hb e) f0 f1 f3 f4 f5
      have y := laidF (vs := xs.reverse) (its := acc.toList) J3 (by rw [List.length_reverse]; exact hz) (RT.vals_rev rv hi) q
      rw [Array.toArray_toList] at y
      exact y
    · obtain ⟨its, rv, pl, hz⟩ := J.tuple hq
      have hl := rv.length
      have hn := line63
      refine RT.call_reversed_tup pl (fun A E Q k => len_tuple pl (by simp only [List.size_toArray] <;> omega) k) (args_nil ?_)
      have J2 : Inv X pins σ K1 { t1 with heap := t1.heap.push (RT.rtObj a ((its.toArray.size : Int) - 1)), toks := t1.toks + 1 + 1 } := J.kept (t' := t1.toks + 1 + 1) fun b o e => Heap.get?_push_of_some _ e
      obtain ⟨f0, f1, f2, f3, f4, f5⟩ := J.fpOk (H' := K1) (b := t1.heap.objs.size) (Nat.le_refl _) (J.hok.fresh (Nat.le_refl _))
      obtain ⟨ol, hol, _⟩ := id pl
      refine call_tuple_rt (s := { t1 with heap := t1.heap.push (RT.rtObj a ((its.toArray.size : Int) - 1)), toks := t1.toks + 1 + 1 }) (J.ok.hd hc) ⟨_, Heap.get?_push_size _ rfl, rfl, rfl⟩ (tup_at pl fun o e => Heap.get?_push_of_some _ e) (Nat.ne_of_lt (Heap.lt_size hol)) (by rw [List.size_toArray, ← rv.length]; exact hz) fun h2 tk2 acc hk hi => ?_
      have J3 : Inv X pins σ K1 { t1 with heap := h2, toks := tk2 } := J2.turned (t' := tk2) (fun b o hb e => hk b o hb e) f0 f1 f3 f4 f5
      have y := laidF (vs := xs.reverse) (its := acc.toList) J3 (by rw [List.length_reverse]; exact hz) (RT.vals_rev rv hi) q
      rw [Array.toArray_toList] at y
      exact y)) s1) s1 rfl))) s2) s2 rfl))⟩
variable {cl : List Value} {Wx : WX} {el : En → Hw → Res (List W × Gu × Bool)}
theorem s_trvA {p2 pos2 : Pos} (hc : X.calm = true) (hg : Gl X "tuple") (hm : X.mg "tuple" = none) (hg2 : Gl X "reversed") (hm2 : X.mg "reversed" = none) (he : PE X e (tL (gx X cl) Wx el))
    (s1 : starEach [e] X.env = (false, eval e X.env) :: starEach [] X.env) (s2 : starEach [Expr.Call (.Name "reversed" p2) [e] [] pos2] X.env = (false, eval (.Call (.Name "reversed" p2) [e] [] pos2) X.env) :: starEach [] X.env) :
    PE X (.Call (.Name "tuple" p) [.Call (.Name "reversed" p2) [e] [] pos2] [] pos) (tE (gx X cl) Wx fun ρ h => (el ρ h).bind fun q h => .ok (.tup q.1.reverse) h) :=
  conseq (pe_tupRevA hc hg hm hg2 hm2 he s1 s2) fun σ H Q z => tR.bind z fun m ρ q v h H1 rs rh s z1 => by
    obtain ⟨a, vs, e, r, s3⟩ := s
    subst e
    have sq : SqL X.K H1 a vs ∨ SqT X.K H1 a vs := by
      rcases s3 with ⟨s3, _⟩ | ⟨_, s3 | s3 | ⟨i, _, s3, _⟩⟩
      · exact .inr s3.sq
      · exact .inl s3.sq
      · exact .inl (.of s3.1)
      · exact .inl (.of s3)
    exact ⟨a, vs, rfl, sq, z1.newT rh r.rev⟩
end
end Ev

set_option Elab.async false
set_option linter.all false
set_option maxRecDepth 100000
/-! Ev9: a text of the small language fits a piece of Python: the look, and what it gives. -/
namespace Ev
open PySem PySem.Spec PyProof.Rows L2

structure Cc where
  N : List Str
  sc : Scope
  fn : Str → Bool
  fns : List (Str × Nat)
  blt : List Str
  mth : List Str
  cns : List (Str × W)
  cls : List Str
  stm : Bool
  /-- instances of class i are such of y -/
  ist : List (Nat × Str × Bool)
  /-- what the def y tells of an instance of class i -/
  sng : List (Str × Nat × Bool)
def visB (sc : Scope) (x : Str) : Bool := match sc.names.lookup x with | some .local => true | some .cell => true | some .free => true | _ => false
def glB (sc : Scope) (x : Str) : Bool := match sc.names.lookup x with | some .globalImplicit => true | _ => false
def okN (x : Str) : Bool := !(x == ("__debug__" : Str)) && !(x == ("__classdict__" : Str)) && !(x == ("__name__" : Str))
def stoB (c : Cc) (x : Str) : Bool := match c.sc.names.lookup x with | some .local => true | some .cell => c.fn x | _ => false
def Cc.blk (c : Cc) (scope : Scope) : Cc := { c with stm := false, sc := relS scope c.sc, fn := fun x => scope.names.lookup x == some .cell }
def ownOf (c : Cc) (scope : Scope) : List (Str × Nat) := scope.names.filterMap fun p => match p.2 with
  | .local => (c.N.idxOf? p.1).map fun i => (p.1, i)
  | .cell => (c.N.idxOf? p.1).map fun i => (p.1, i)
  | _ => none
def bltB (c : Cc) (x : Str) : Bool := c.blt.contains x && glB c.sc x && okN x

def bopB : Operator → Bop → Bool
  | .Add, .add => true | .Sub, .sub => true | .Mult, .mul => true | .FloorDiv, .fdiv => true | .Mod, .mod => true | .Pow, .pow => true
  | _, _ => false
def copB : CmpOp → Cop → Bool
  | .Eq, .eq => true | .NotEq, .ne => true | .Lt, .lt => true | .LtE, .le => true | .Gt, .gt => true | .GtE, .ge => true | .In, .inn => true | .NotIn, .nin => true
  | _, _ => false
/-- in a chain: < ≤ > ≥ = ≠ -/
def copN : CmpOp → Cop → Bool
  | .Eq, .eq => true | .NotEq, .ne => true | .Lt, .lt => true | .LtE, .le => true | .Gt, .gt => true | .GtE, .ge => true
  | _, _ => false
def biB (f : Bi) (n : Nat) (x : Str) : Bool := match f with
  | .abs => x == ("abs" : Str) && n == 1
  | .toInt => x == ("int" : Str) && n == 1
  | .max2 => x == ("max" : Str) && n == 2
  | .min2 => x == ("min" : Str) && n == 2
  | .divmod => x == ("divmod" : Str) && n == 2
  | _ => false
def mthB (f : Bi) (n : Nat) (x : Str) : Bool := match f with
  | .lcm => x == ("lcm" : Str) && n == 2
  | .gcd => x == ("gcd" : Str) && n == 2
  | _ => false
def blB (f : Bl) (x : Str) : Bool := match f with
  | .sum => x == ("sum" : Str)
  | .max => x == ("max" : Str)
  | .min => x == ("min" : Str)
  | .tuple => x == ("tuple" : Str)
  | .list => x == ("list" : Str)
  | .len => x == ("len" : Str)
  | _ => false
def tyB (t : Ty) (x : Str) : Bool := match t with
  | .int => x == ("int" : Str)
  | .bool => x == ("bool" : Str)
  | .str => x == ("str" : Str)
  | .tup => x == ("tuple" : Str)
  | .lst => x == ("list" : Str)
def mtB (f : Mt) (n : Nat) (x : Str) : Bool := match f with
  | .append => x == ("append" : Str) && n == 1
  | .extend => x == ("extend" : Str) && n == 1
  | .popAt => x == ("pop" : Str) && n == 1
  | .index => x == ("index" : Str) && n == 1
  | .insert => x == ("insert" : Str) && n == 2
  | .remove => x == ("remove" : Str) && n == 1
  | .count => x == ("count" : Str) && n == 1
  | _ => false
def notStar : Expr → Bool
  | .Starred .. => false
  | _ => true
def notSlice : Expr → Bool
  | .Slice .. => false
  | _ => true
def notSet : Expr → Bool
  | .Set .. => false
  | _ => true
def notComp : Expr → Bool
  | .ListComp .. => false
  | .SetComp .. => false
  | .DictComp .. => false
  | _ => true
def notCall0 : Expr → Bool
  | .Call _ [] _ _ => false
  | _ => true
/-- its test is its value's truth -/
def plainT : Expr → Bool
  | .UnaryOp .Not _ _ => false
  | .BoolOp .. => false
  | .IfExp .. => false
  | .Compare .. => false
  | _ => true
def isTupE : Expr → Bool
  | .Tuple .. => true
  | _ => false

mutual
def chkG : Nat → Cc → Expr → IG → Bool
  | 0, _, _, _ => false
  | n + 1, c, z0, z1 => match z0, z1 with
    | .Name x _, .var i => decide (c.N[i]? = some x) && stoB c x
    | .Tuple es _ _, .tup ts => chkGs n c es ts
    | _, _ => false
def chkGs : Nat → Cc → List Expr → List IG → Bool
  | 0, _, _, _ => false
  | n + 1, c, z0, z1 => match z0, z1 with
    | [], [] => true
    | e :: es, t :: ts => chkG n c e t && chkGs n c es ts
    | _, _ => false
end
mutual
def chkE : Nat → Cc → Expr → IE → Bool
  | 0, _, _, _ => false
  | n + 1, c, z0, z1 => match z0, z1 with
    | .Name x _, .var i => decide (c.N[i]? = some x) && visB c.sc x && okN x
    | .Constant (.int i) _ _, .cst (.int j) => decide (i = j)
    | .Constant (.bool i) _ _, .cst (.bl j) => decide (i = j)
    | .Constant (.str i) _ _, .cst (.str j) => decide (i = j)
    | .Constant .none _ _, .cst .non => true
    | .BinOp a op b _, .bin o a' b' => bopB op o && chkE n c a a' && chkE n c b b'
    | .UnaryOp .USub a _, .neg a' => chkE n c a a'
    | .UnaryOp .Not a _, .not (.val a') => chkE n c a a'
    | .BoolOp op es _, e' => chkB n c op es e'
    | .IfExp t a b _, .ite t' a' b' => chkT n c t t' && chkE n c a a' && chkE n c b b'
    | .Compare a [.Is] [.Constant .none _ _] _, .cmp .isN a' (.cst .non) => chkE n c a a'
    | .Compare a [.IsNot] [.Constant .none _ _] _, .cmp .notN a' (.cst .non) => chkE n c a a'
    | .Compare a [op] [b] _, .cmp o a' b' => copB op o && notSet b && chkE n c a a' && chkE n c b b'
    | .Tuple es _ _, .tup es' => chkEs n c es es'
    | .List es _, .lst es' => chkEs n c es es'
    | .ListComp elt gs scope pos, .mk (.comp g it ts el own) => chkL n c (.ListComp elt gs scope pos) (.comp g it ts el own)
    | .Subscript a (.Slice lo hi none _) _, .slc a' lo' hi' => chkE n c a a' && chkP n c lo lo' && chkP n c hi hi'
    | .Subscript a b _, .idx a' b' => chkE n c a a' && chkE n c b b' && notSlice b
    | .Call (.Name f _) args [] _, .call i es => decide (c.fns[i]? = some (f, args.length)) && glB c.sc f && okN f && !args.isEmpty && chkEs n c args es
    | .Call (.Name f _) [a, .Name t _] [] _, .bi (.isI ty) (.cons a' .nil) => (f == ("isinstance" : Str)) && bltB c f && tyB ty t && bltB c t && chkE n c a a'
    | .Call (.Name f _) args [] _, .bi b es => ((biB b args.length f && bltB c f) || (mthB b args.length f && c.mth.contains f && glB c.sc f && okN f)) && chkEs n c args es
    | .Call (.Name f _) [.Call (.Name g _) [a] [] _] [] _, .lr1 a' => (f == ("list" : Str)) && bltB c f && (g == ("range" : Str)) && bltB c g && chkE n c a a'
    | .Call (.Name f _) [.Call (.Name g _) [a, b] [] _] [] _, .lr2 a' b' => (f == ("list" : Str)) && bltB c f && (g == ("range" : Str)) && bltB c g && chkE n c a a' && chkE n c b b'
    | .Call (.Attribute o m apos) [] [] pos, .mt .reverse o' .nil => (m == ("reverse" : Str)) && (apos.endLine == pos.line) && notCall0 o && chkE n c o o'
    | .Call (.Attribute o m apos) [] [] pos, .mt .pop o' .nil => (m == ("pop" : Str)) && (apos.endLine == pos.line) && notCall0 o && chkE n c o o'
    | .Call (.Name f _) [a] [⟨some kn, .Constant (.int i) _ _, _⟩] _, .maxD l j => (f == ("max" : Str)) && bltB c f && (kn == Str.ofString "default") && decide (i = j) && chkL n c a l
    | .Call (.Name f _) [a] [] _, .srt l => (f == ("sorted" : Str)) && bltB c f && chkL n c a l
    | .Call (.Name f _) [a] [] _, .aa k l => (f == (if k then ("all" : Str) else ("any" : Str))) && bltB c f && chkL n c a l
    | .Call (.Name f _) [.Call (.Name g _) [a, b] [] _] [] _, .tr2 a' b' => (f == ("tuple" : Str)) && bltB c f && (g == ("range" : Str)) && bltB c g && chkE n c a a' && chkE n c b b'
    | .Call (.Name f _) [a] [] _, .bl b l => blB b f && bltB c f && chkL n c a l
    | .Name x _, .glc w => (c.cns.any fun p => (p.1 == x) && W.eqb p.2 w) && glB c.sc x && okN x
    | .Call (.Name f _) [a] [] _, .rgN a' => (f == ("range" : Str)) && bltB c f && chkE n c a a'
    | .Call (.Name f _) [.Call (.Name g _) [a] [] _] [] _, .srtD l => (f == ("sorted" : Str)) && bltB c f && (g == ("set" : Str)) && bltB c g && chkL n c a l
    | .ListComp elt gs scope pos, .mk (.comp2 g it ts g2 it2 ts2 el own own2) => chkL n c (.ListComp elt gs scope pos) (.comp2 g it ts g2 it2 ts2 el own own2)
    | .Call (.Attribute o m apos) args [] pos, .mt f o' es => mtB f args.length m && (apos.endLine == pos.line) && decide (args.length < 29) && notCall0 o && chkE n c o o' && chkEs n c args es
    | .Dict [] [] _, .dnew => true
    | .Subscript a b _, .dget a' b' => chkE n c a a' && chkE n c b b' && notSlice b
    | .Compare a [.In] [b] _, .din true a' b' => notSet b && chkE n c a a' && chkE n c b b'
    | .Compare a [.NotIn] [b] _, .din false a' b' => notSet b && chkE n c a a' && chkE n c b b'
    | z0, z1 => chkX n c z0 z1
/-- the dicts' rows -/
def chkX : Nat → Cc → Expr → IE → Bool
  | 0, _, _, _ => false
  | n + 1, c, z0, z1 => match z0, z1 with
    | .Call (.Attribute o m apos) [k, x] [] pos, .dgt o' k' x' => (m == ("get" : Str)) && (apos.endLine == pos.line) && notCall0 o && notStar k && notStar x && chkE n c o o' && chkE n c k k' && chkE n c x x'
    | .Call (.Attribute o m apos) [k, x] [] pos, .dst o' k' x' => (m == ("setdefault" : Str)) && (apos.endLine == pos.line) && notCall0 o && notStar k && notStar x && chkE n c o o' && chkE n c k k' && chkE n c x x'
    | .Call (.Attribute o m apos) [k] [] pos, .tix o' k' => (m == ("index" : Str)) && (apos.endLine == pos.line) && notCall0 o && notStar k && chkE n c o o' && chkE n c k k'
    | .Call (.Name f _) [a] [] _, .dmk l => (f == ("dict" : Str)) && bltB c f && chkL n c a l
    | .Call (.Name f _) [a] [] _, .dcp a' => (f == ("dict" : Str)) && bltB c f && chkE n c a a'
    | .Call (.Name f _) [a] [] _, .dsr a' => (f == ("sorted" : Str)) && bltB c f && chkE n c a a'
    | .Call (.Name f _) [.Call (.Attribute o m apos) [] [] mpos] [] _, .dvm o' => (f == ("max" : Str)) && bltB c f && (m == ("values" : Str)) && (apos.endLine == mpos.line) && notCall0 o && chkE n c o o'
    | .Call (.Name f _) [.Call (.Name g _) [a] [] _] [] _, .trv l => (f == ("tuple" : Str)) && bltB c f && (g == ("reversed" : Str)) && bltB c g && notStar a && chkL n c a l
    | .Dict (k :: ks) vs _, .ddl es => (k :: ks).all (·.isSome) && decide ((k :: ks).length = vs.length) && decide ((k :: ks).length ≤ 15) && chkD n c (k :: ks) vs es
    | .DictComp kx vx gs scope pos, .dcm g it ts k v own => chkM n c (.DictComp kx vx gs scope pos) (.dcm g it ts k v own)
    | .Compare a [op, op'] [b, d] _, .chn o o' a' b' d' => copN op o && copN op' o' && chkE n c a a' && chkE n c b b' && chkE n c d d'
    | z0, .lck _ e => notStar z0 && chkE n c z0 e
    | _, _ => false
/-- a dict comprehension's parts -/
def chkM : Nat → Cc → Expr → IE → Bool
  | 0, _, _, _ => false
  | n + 1, c, z0, z1 => match z0, z1 with
    | .DictComp kx vx [⟨tg, iter, ifs, 0⟩] scope _, .dcm g it ts k v own => decide (own = (ownOf c scope).map (·.2)) && blkC c.N c.sc scope (ownOf c scope) && chkI n c tg iter it && notSet iter && chkG n (c.blk scope) tg g && chkTs n (c.blk scope) ifs ts && chkE n (c.blk scope) kx k && chkE n (c.blk scope) vx v && (slots g).all (own.contains ·)
    | _, _ => false
def chkD : Nat → Cc → List (Option Expr) → List Expr → IEs → Bool
  | 0, _, _, _, _ => false
  | n + 1, c, z0, z1, z2 => match z0, z1, z2 with
    | [], [], .nil => true
    | some k :: ks, v :: vs, .cons k' (.cons v' es) => chkE n c k k' && chkE n c v v' && chkD n c ks vs es
    | _, _, _ => false
def chkB : Nat → Cc → BoolOp → List Expr → IE → Bool
  | 0, _, _, _, _ => false
  | n + 1, c, z0, z1, z2 => match z0, z1, z2 with
    | _, [a], e' => chkE n c a e'
    | .And, a :: b :: r, .and a' b' => chkE n c a a' && chkB n c .And (b :: r) b'
    | .Or, a :: b :: r, .or a' b' => chkE n c a a' && chkB n c .Or (b :: r) b'
    | _, _, _ => false
def chkEs : Nat → Cc → List Expr → IEs → Bool
  | 0, _, _, _ => false
  | n + 1, c, z0, z1 => match z0, z1 with
    | [], .nil => true
    | e :: es, .cons e' es' => notStar e && chkE n c e e' && chkEs n c es es'
    | _, _ => false
def chkP : Nat → Cc → Option Expr → IP → Bool
  | 0, _, _, _ => false
  | n + 1, c, z0, z1 => match z0, z1 with
    | none, .no => true
    | some e, .at e' => chkE n c e e'
    | _, _ => false
def chkT : Nat → Cc → Expr → IT → Bool
  | 0, _, _, _ => false
  | n + 1, c, z0, z1 => match z0, z1 with
    | .UnaryOp .Not a _, .not a' => chkT n c a a'
    | .BoolOp op es _, t => chkW n c op es t
    | .Compare a [.Is] [.Constant .none _ _] _, .val (.cmp .isN a' (.cst .non)) => chkE n c a a'
    | .Compare a [.IsNot] [.Constant .none _ _] _, .val (.cmp .notN a' (.cst .non)) => chkE n c a a'
    | .Compare a [op] [b] _, .val (.cmp o a' b') => copB op o && notSet b && chkE n c a a' && chkE n c b b'
    | .Compare a [.In] [b] _, .val (.din true a' b') => notSet b && chkE n c a a' && chkE n c b b'
    | .Compare a [.NotIn] [b] _, .val (.din false a' b') => notSet b && chkE n c a a' && chkE n c b b'
    | .Compare a [op, op'] [b, d] _, .val (.chn o o' a' b' d') => copN op o && copN op' o' && chkE n c a a' && chkE n c b b' && chkE n c d d'
    | e, .val e' => plainT e && chkE n c e e'
    | _, _ => false
def chkW : Nat → Cc → BoolOp → List Expr → IT → Bool
  | 0, _, _, _, _ => false
  | n + 1, c, z0, z1, z2 => match z0, z1, z2 with
    | _, [a], e' => chkT n c a e'
    | .And, a :: b :: r, .and a' b' => chkT n c a a' && chkW n c .And (b :: r) b'
    | .Or, a :: b :: r, .or a' b' => chkT n c a a' && chkW n c .Or (b :: r) b'
    | _, _, _ => false
def chkL : Nat → Cc → Expr → IL → Bool
  | 0, _, _, _ => false
  | n + 1, c, z0, z1 => match z0, z1 with
    | .ListComp elt [⟨tg, iter, ifs, 0⟩] scope _, .comp g it ts el own => decide (own = (ownOf c scope).map (·.2)) && blkC c.N c.sc scope (ownOf c scope) && chkI n c tg iter it && notSet iter && chkG n (c.blk scope) tg g && chkTs n (c.blk scope) ifs ts && chkE n (c.blk scope) elt el && (slots g).all (own.contains ·)
    | .ListComp elt [⟨tg, iter, ifs, 0⟩, ⟨tg1, iter1, ifs1, 0⟩] scope _, .comp2 g it ts g2 it2 ts2 el own own2 => decide (own = (ownOf c scope).map (·.2)) && blkC c.N c.sc scope (ownOf c scope) && chkI n c tg iter it && notSet iter && chkG n (c.blk scope) tg g && chkTs n (c.blk scope) ifs ts && chkJ n (c.blk scope) iter1 it2 && notSet iter1 && chkG n (c.blk scope) tg1 g2 && chkTs n (c.blk scope) ifs1 ts2 && chkE n (c.blk scope) elt el && (slots g).all (own.contains ·) && (slots g2).all (own2.contains ·) && own2.all (own.contains ·)
    | .List es _, .disp es' => chkEs n c es es'
    | e, .of e' => chkE n c e e'
    | _, _ => false
def chkTs : Nat → Cc → List Expr → ITs → Bool
  | 0, _, _, _ => false
  | n + 1, c, z0, z1 => match z0, z1 with
    | [], .nil => true
    | [t], .cons t' .nil => chkT n c t t'
    | _, _ => false
def chkI : Nat → Cc → Expr → Expr → II → Bool
  | 0, _, _, _, _ => false
  | n + 1, c, z0, z1, z2 => match z0, z1, z2 with
    | _, .Call (.Name f _) [a] [] _, .rng1 a' => (f == ("range" : Str)) && bltB c f && notStar a && chkE n c a a'
    | _, .Call (.Name f _) [a, b] [] _, .rng2 a' b' => (f == ("range" : Str)) && bltB c f && notStar a && notStar b && chkE n c a a' && chkE n c b b'
    | tg, .Call (.Name f _) [a, b] [] _, .zip a' b' => (f == ("zip" : Str)) && bltB c f && notStar a && notStar b && isTupE tg && chkL n c a a' && chkL n c b b'
    | tg, .Call (.Name f _) [a] [] _, .enum a' => (f == ("enumerate" : Str)) && bltB c f && notStar a && isTupE tg && chkL n c a a'
    | _, .Call (.Name f _) [a, b, .UnaryOp .USub (.Constant (.int 1) _ _) _] [] _, .rng3 a' b' => (f == ("range" : Str)) && bltB c f && notStar a && notStar b && chkE n c a a' && chkE n c b b'
    | _, .Call (.Name g _) [.Call (.Name f _) [a] [] _] [] _, .rgR a' => (f == ("range" : Str)) && bltB c f && (g == ("reversed" : Str)) && bltB c g && notStar a && chkE n c a a'
    | _, e, .rgv e' => chkE n c e e'
    | _, e, .dk e' => chkE n c e e'
    | tg, .Call (.Attribute o m apos) [] [] pos, .di o' => (m == ("items" : Str)) && (apos.endLine == pos.line) && notCall0 o && isTupE tg && chkE n c o o'
    | _, .Call (.Name g _) [a] [] _, .rv l => (g == ("reversed" : Str)) && bltB c g && notStar a && chkL n c a l
    | _, e, .of l => chkL n c e l
    | _, _, _ => false
/-- what is walked within a turn -/
def chkJ : Nat → Cc → Expr → II → Bool
  | 0, _, _, _ => false
  | n + 1, c, z1, z2 => match z1, z2 with
    | .Call (.Name f _) [a] [] _, .rng1 a' => (f == ("range" : Str)) && bltB c f && notStar a && chkE n c a a'
    | .Call (.Name f _) [a, b] [] _, .rng2 a' b' => (f == ("range" : Str)) && bltB c f && notStar a && notStar b && chkE n c a a' && chkE n c b b'
    | e, .of (.of e') => chkE n c e e'
    | _, _ => false
end
/-- name = [..] on one line, the name a local: stored by the comprehension itself -/
def swapB (c : Cc) (y : Str) (py : Pos) (scope : Scope) (pos : Pos) : Bool :=
  (match c.sc.names.lookup y with | some .local => true | _ => false) && (py.line == pos.line) && !(scope.names.any fun (n, k) => n == y && (k == .local || k == .cell))
/-- a name that another block reads, too -/
def cellB (c : Cc) (y : Str) : Bool := match c.sc.names.lookup y with | some .cell => true | _ => false
/-! what may stand in an except suite -/
mutual
def chkHE : Nat → Cc → Expr → IE → Bool
  | 0, _, _, _ => false
  | n + 1, c, z0, z1 => match z0, z1 with
    | .Name x _, .var i => decide (c.N[i]? = some x) && visB c.sc x && okN x
    | .Constant (.int i) _ _, .cst (.int j) => decide (i = j)
    | .Constant (.bool i) _ _, .cst (.bl j) => decide (i = j)
    | .Constant (.str i) _ _, .cst (.str j) => decide (i = j)
    | .Constant .none _ _, .cst .non => true
    | .BinOp a op b _, .bin o a' b' => bopB op o && chkHE n c a a' && chkHE n c b b'
    | .Tuple es _ _, .tup es' => chkHEs n c es es'
    | _, _ => false
def chkHEs : Nat → Cc → List Expr → IEs → Bool
  | 0, _, _, _ => false
  | n + 1, c, z0, z1 => match z0, z1 with
    | [], .nil => true
    | e :: es, .cons e' es' => notStar e && chkHE n c e e' && chkHEs n c es es'
    | _, _ => false
end
def chkHS (n : Nat) (c : Cc) (z0 : Stmt) (z1 : IS) : Bool := match z0, z1 with
    | .Return (some e) _, .ret e' => chkHE n c e e'
    | .Return none _, .retN => true
    | .Assign [.Name x py] e _, .asg (.var i) e' => notComp e && !(isTupE e && isTupE (.Name x py)) && chkG 5 c (.Name x py) (.var i) && chkHE n c e e'
    | _, _ => false
def chkHSs (n : Nat) (c : Cc) : List Stmt → ISs → Bool
  | [], .nil => true
  | s :: ss, .cons s' ss' => chkHS n c s s' && chkHSs n c ss ss'
  | _, _ => false
/-! what may stand in a suite that names its exception e, of class i -/
mutual
/-- a truth about e -/
def hvB : Nat → Cc → Nat → Str → Expr → Option Bool
  | 0, _, _, _, _ => none
  | n + 1, c, i, e, z => match z with
    | .Call (.Name f _) [.Name e1 _, .Name y _] [] _ => if ((f == ("isinstance" : Str)) && (e1 == e) && bltB c f && glB c.sc y && okN y) = true then (c.ist.find? fun p => (p.1 == i) && (p.2.1 == y)).map (·.2.2) else none
    | .Call (.Name f _) [.Name e1 _] [] _ => if ((e1 == e) && glB c.sc f && okN f) = true then (c.sng.find? fun p => (p.1 == f) && (p.2.1 == i)).map (·.2.2) else none
    | .UnaryOp .Not a _ => (hvB n c i e a).map (!·)
    | .BoolOp .And es _ => hvBs n c i e es
    | _ => none
def hvBs : Nat → Cc → Nat → Str → List Expr → Option Bool
  | 0, _, _, _, _ => none
  | n + 1, c, i, e, z => match z with
    | [a] => hvB n c i e a
    | a :: b :: r => match hvB n c i e a, hvBs n c i e (b :: r) with
      | some p, some q => some (p && q)
      | _, _ => none
    | _ => none
end
mutual
def chkXE : Nat → Cc → Nat → Str → Expr → IE → Bool
  | 0, _, _, _, _, _ => false
  | n + 1, c, i, e, z0, z1 => match z0, z1 with
    | .Name x _, .var j => decide (c.N[j]? = some x) && visB c.sc x && okN x
    | .Constant (.int k) _ _, .cst (.int j) => decide (k = j)
    | .Constant (.bool k) _ _, .cst (.bl j) => decide (k = j)
    | .Constant (.str k) _ _, .cst (.str j) => decide (k = j)
    | .Constant .none _ _, .cst .non => true
    | .BinOp a op b _, .bin o a' b' => bopB op o && chkXE n c i e a a' && chkXE n c i e b b'
    | .Tuple es _ _, .tup es' => chkXEs n c i e es es'
    | .Call (.Name f _) [a] [] _, .bi .toInt (.cons a' .nil) => (f == ("int" : Str)) && bltB c f && notStar a && chkXE n c i e a a'
    | z, .cst (.bl b) => decide (hvB n c i e z = some b)
    | _, _ => false
def chkXEs : Nat → Cc → Nat → Str → List Expr → IEs → Bool
  | 0, _, _, _, _, _ => false
  | n + 1, c, i, e, z0, z1 => match z0, z1 with
    | [], .nil => true
    | a :: es, .cons a' es' => notStar a && chkXE n c i e a a' && chkXEs n c i e es es'
    | _, _ => false
end
/-- x: the place of e -/
def chkXS (n : Nat) (c : Cc) (i x : Nat) (e : Str) (z0 : Stmt) (z1 : IS) : Bool := match z0, z1 with
    | .Return (some z) _, .ret z' => chkXE n c i e z z'
    | .Return none _, .retN => true
    | .Assign [.Name y py] z _, .asg (.var j) z' => decide (j ≠ x) && notComp z && !(isTupE z && isTupE (.Name y py)) && chkG 5 c (.Name y py) (.var j) && chkXE n c i e z z'
    | _, _ => false
def chkXSs (n : Nat) (c : Cc) (i x : Nat) (e : Str) : List Stmt → ISs → Bool
  | [], .nil => true
  | s :: ss, .cons s' ss' => chkXS n c i x e s s' && chkXSs n c i x e ss ss'
  | _, _ => false
def locB (c : Cc) (x : Str) : Bool := match c.sc.names.lookup x with | some .local => true | _ => false
def hvL (n : Nat) (c : Cc) (i : Nat) (e : Str) : List Expr → Option (List Bool)
  | [] => some []
  | a :: r => match hvB n c i e a, hvL n c i e r with
    | some p, some q => some (p :: q)
    | _, _ => none
/-- a def that tells whether its exception is of one class alone -/
def sngB (c : Cc) (i : Nat) (body : List Stmt) : Option Bool := match body with
  | [.Assign [.Name f1 _] (.List l1 _) _, .Assign [.Name f2 _] (.BinOp (.Name f3 _) .Add (.List l2 _) _) _, .Assign [.Name f4 _] (.BinOp (.Name f5 _) .Add (.List l3 _) _) _,
     .Return (some (.BoolOp .And [a1, a2, .Compare (.Call (.Attribute (.Name f6 _) m apos) [.Constant (.bool true) _ _] [] cpos) [.Eq] [.Constant (.int 1) _ _] _] _)) _] =>
    (match c.N with
    | [e, f] => if ((f1 == f) && (f2 == f) && (f3 == f) && (f4 == f) && (f5 == f) && (f6 == f) && (m == ("count" : Str)) && (apos.endLine == cpos.line) && okN e && okN f && locB c e && locB c f && decide (l1.length + l2.length + l3.length ≤ 20)) = true then
        (match hvL 5 c i e l1, hvL 5 c i e l2, hvL 5 c i e l3, hvB 5 c i e a1, hvB 5 c i e a2 with
        | some b1, some b2, some b3, some t1, some t2 => some (t1 && (t2 && decide ((b1 ++ b2 ++ b3).count true = 1)))
        | _, _, _, _, _ => none)
      else none
    | _ => none)
  | _ => none
mutual
def chkS : Nat → Cc → Stmt → IS → Bool
  | 0, _, _, _ => false
  | n + 1, c, z0, z1 => match z0, z1 with
    | .Expr (.Constant (.str _) _ _) _, .pass => true
    | .Expr e _, .expr e' => notComp e && chkE n c e e'
    | .Assign [.Name y py] (.ListComp elt gs scope pos) _, .asg (.var i) (.mk (.comp g it ts el own)) => (decide (c.N[i]? = some y) && swapB c y py scope pos && chkL n c (.ListComp elt gs scope pos) (.comp g it ts el own)) || (cellB c y && chkG n c (.Name y py) (.var i) && chkE n c (.ListComp elt gs scope pos) (.mk (.comp g it ts el own)))
    | .Assign [.Name y py] (.DictComp kx vx gs scope pos) _, .asg (.var i) (.dcm g it ts k v own) => (decide (c.N[i]? = some y) && swapB c y py scope pos && chkM n c (.DictComp kx vx gs scope pos) (.dcm g it ts k v own)) || (cellB c y && chkG n c (.Name y py) (.var i) && chkE n c (.DictComp kx vx gs scope pos) (.dcm g it ts k v own))
    | .Assign [.Subscript o i _] e _, .set o' i' e' => notComp e && notSlice i && chkE n c o o' && chkE n c i i' && chkE n c e e'
    | .Assign [.Subscript o i _] e _, .dset o' i' e' => chkE n c o o' && chkE n c i i' && chkE n c e e'
    | .Assign [tg] e _, .asg t e' => notComp e && !(isTupE e && isTupE tg) && chkG n c tg t && chkE n c e e'
    | .AugAssign (.Name x _) .Add e _, .aug i .add e' => decide (c.N[i]? = some x) && stoB c x && chkE n c e e'
    | .AugAssign (.Name x _) .Sub e _, .aug i .sub e' => decide (c.N[i]? = some x) && stoB c x && chkE n c e e'
    | .AugAssign (.Subscript o i _) .Add e _, .augS o' i' .add e' => notSlice i && chkE n c o o' && chkE n c i i' && chkE n c e e'
    | .AugAssign (.Subscript o i _) .Sub e _, .augS o' i' .sub e' => notSlice i && chkE n c o o' && chkE n c i i' && chkE n c e e'
    | .AugAssign (.Subscript o i _) .Add e _, .daug o' i' .add e' => notSlice i && chkE n c o o' && chkE n c i i' && chkE n c e e'
    | .AugAssign (.Subscript o i _) .Sub e _, .daug o' i' .sub e' => notSlice i && chkE n c o o' && chkE n c i i' && chkE n c e e'
    | _, .bad => true
    | .Raise (some (.Call (.Name x _) [.Constant (.str _) _ _] [] _)) none _, .rz i => decide (c.cls[i]? = some x) && glB c.sc x && okN x
    | .Try body [.ExceptHandler (some (.Name x _)) none (s0 :: ss) _] [] [] _, .tryE b i s => c.stm && decide (c.cls[i]? = some x) && glB c.sc x && okN x && chkSs n c body b && chkHSs n c (s0 :: ss) s
    | .Try body [.ExceptHandler (some (.Name y _)) (some e) (s0 :: ss) _] [] [] _, .tryA b i x s => c.stm && decide (c.cls[i]? = some y) && glB c.sc y && okN y && decide (c.N[x]? = some e) && (locB c e && okN e) && chkSs n c body b && chkXSs n c i x e (s0 :: ss) s
    | .If t a b _, .ifs t' a' b' => chkT n c t t' && chkSs n c a a' && chkSs n c b b'
    | .For tg iter b [] _, .for t it b' => chkG n c tg t && chkI n c tg iter it && notSet iter && chkSs n c b b'
    | .While t b [] _, .whl t' b' => chkT n c t t' && chkSs n c b b'
    | .Return (some e) _, .ret e' => chkE n c e e'
    | .Return none _, .retN => true
    | .Break _, .brk => true
    | .Continue _, .cont => true
    | .Pass _, .pass => true
    | s, .lckS _ s' => chkS n c s s'
    | _, _ => false
def chkSs : Nat → Cc → List Stmt → ISs → Bool
  | 0, _, _, _ => false
  | n + 1, c, z0, z1 => match z0, z1 with
    | [], .nil => true
    | s :: ss, .cons s' ss' => chkS n c s s' && chkSs n c ss ss'
    | _, _ => false
end
end Ev

set_option Elab.async false
set_option linter.all false
set_option maxRecDepth 100000
set_option maxHeartbeats 4000000
/-! EvU: what is known of the exceptions' classes. -/
namespace Ev
open PySem PySem.Spec PyProof.Rows L2 L2H

/-- more objects are laid -/
inductive Laid : Hp → Hp → Prop
  | refl {H : Hp} : Laid H H
  | step {H H1 : Hp} {p : Addr} {o : HO} : Laid H H1 → H1 p = none → Laid H (upd H1 p o)
theorem Laid.trans {H H1 H2 : Hp} (x : Laid H H1) (y : Laid H1 H2) : Laid H H2 := by
  induction y with
  | refl => exact x
  | step _ hp ih => exact ih.step hp
theorem Laid.keep {H H1 : Hp} (x : Laid H H1) {p : Addr} {o : HO} (e : H p = some o) : H1 p = some o := by
  induction x with
  | refl => exact e
  | @step H1 q o' _ hp ih =>
    have hne : p ≠ q := fun z => by rw [z, hp] at ih; cases ih
    rw [upd_ne hne]; exact ih
theorem Laid.rel {K : PySem.W.Frag} {m : List Addr} {H H1 : Hp} {h : Hw} (x : Laid H H1) (r : RelH K m H h) : RelH K m H1 h := by
  induction x with
  | refl => exact r
  | step _ hp ih => exact ih.laid hp
theorem Laid.nx {m : List Addr} {H H1 : Hp} (x : Laid H H1) : Nx m H m H1 := by
  induction x with
  | refl => exact .refl
  | step _ hp ih => exact ih.trans (Nx.laid hp)

/-! ### what is known of the classes -/
/-- y names a class -/
inductive NmC (mg : Str → Option Value) (y : Str) : V → Value → Prop
  | own {C : Addr} : mg y = some (.ref C) → NmC mg y (.ref C) (.ref C)
  | blt {T : String} : mg y = none → bootBuiltins y = some (.type T) → y ≠ "__name__" → NmC mg y (.ty T) (.type T)
theorem NmC.one {mg : Str → Option Value} {y : Str} {v : V} {cv : Value} (n : NmC mg y v cv) : ∀ u, RelV v u → u = cv := by
  intro u r
  cases n with
  | own _ => exact r
  | blt _ _ _ => exact r
/-- an instance of class i is one of y: b -/
def IsF (K : PySem.W.Frag) (mg : Str → Option Value) (cl : List Value) (p : Nat × Str × Bool) : Prop :=
  ∃ (D : Addr) (v : V) (cv : Value), cl[p.1]? = some (.ref D) ∧ ExcC K D ∧ NmC mg p.2.1 v cv ∧ PySem.W.kitOne K (.ref D) cv = some p.2.2
/-- what the def tells of an instance of class i: b -/
def SgF (P : Program) (w : World) (K : PySem.W.Frag) (mg : Str → Option Value) (base : Heap) (cl : List Value) (p : Str × Nat × Bool) : Prop :=
  ∃ (f : Addr) (fd : FuncData) (p1 : Str), mg p.1 = some (.ref f) ∧ PySem.W.keepIn K (.ref f) = true ∧ Binds K fd [p1] [] ∧
    ∀ (A : Around) (outer : List Env) (s : Shared) (H : Hp) (args : Args) (a : Addr) (oe : Obj) (D : Addr) (Q : VK), RoomH 0 A → PinOk outer H s (a, oe) → cl[p.2.1]? = some (.ref D) → Zc (.ref D) none oe → (∃ vs, oe.data = .fields vs) →
      Env0 P w K mg base A outer s H → BindsTo s fd args ([p1].zip [Value.ref a]) → (∀ H', Laid H H' → Q (.bl p.2.2) H') → codeAny (model P w) A (.call (.ref f) args) (CR (L2.CX P w) outer P w H s Q (fun _ _ _ => False)) s
end Ev

set_option Elab.async false
set_option linter.all false
set_option maxRecDepth 100000
/-! EvA: what the look gives: the judgement of every piece that fits. -/
namespace Ev
open PySem PySem.Spec PyProof.Rows L2

/-- a class of exceptions of the text -/
structure ClsOk (K : PySem.W.Frag) (C : Addr) : Prop where
  q : PySem.W.excIn K C [.type "ValueError", .type "Exception", .type "BaseException", .type "object"] "ValueError.__new__" = true
  k : PySem.W.keepIn K (.ref C) = true
  s : PySem.W.subIn K (.ref C) (.type "BaseException") = some true
  t : PySem.W.typeIn K (.ref C) = some (.type "type")
  e : PySem.W.exmOne K (.ref C) (.ref C) = some true
structure Ctx (X : Cx) (cl : List Value) (c : Cc) (k : Nat) (Φ : Fn) (Wx : WX) : Prop where
  N : X.N = c.N
  nd : c.N.Nodup
  sc : X.env.scope = c.sc
  kind : X.env.scope.kind = .function
  fn : X.fn = c.fn
  calm : X.calm = true
  room : Room k X.A
  tk : Takes X Wx
  pass : PassesOwn (model X.prog X.w) X.A X.env X.xe
  fns : ∀ (i : Nat) (x : Str) (a : Nat), c.fns[i]? = some (x, a) → FnAt X cl k (Φ i) x a
  blt : ∀ x : Str, c.blt.contains x = true → X.mg x = none
  lcm : c.mth.contains ("lcm" : Str) = true → X.mg "lcm" = some (.builtin "math.lcm")
  gcd : c.mth.contains ("gcd" : Str) = true → X.mg "gcd" = some (.builtin "math.gcd")
  cns : ∀ p ∈ c.cns, ∃ v, X.mg p.1 = some v ∧ ConV X.K p.2 v
  cls : ∀ (i : Nat) (x : Str), c.cls[i]? = some x → ∃ C : Addr, cl[i]? = some (.ref C) ∧ X.mg x = some (.ref C) ∧ ClsOk X.K C
  stm : c.stm = true → X.stack = X.env :: X.outer ∧ X.env.frame = some X.env.locals
  ist : ∀ p ∈ c.ist, IsF X.K X.mg cl p
  sng : ∀ p ∈ c.sng, SgF X.prog X.w X.K X.mg X.base cl p
section
variable {X : Cx} {cl : List Value} {c : Cc} {k : Nat} {Φ : Fn} {Wx : WX}
theorem Ctx.blk (C : Ctx X cl c k Φ Wx) {scope : Scope} (hk : scope.kind = .function) (s : Shared) (H : Hp) (A : Addr) (cs : List (Str × Addr)) (fp : List Addr) : Ctx (X.blk s H scope (compEnvC scope cs A X.env) fp) cl (c.blk scope) k Φ noX where
  N := C.N
  nd := C.nd
  sc := by show relS scope X.env.scope = relS scope c.sc; rw [C.sc]
  kind := hk
  fn := rfl
  calm := C.calm
  room := C.room
  tk := takes0
  pass := PassesOwn.never
  fns := fun i x a h => ⟨(C.fns i x a h).ex, (C.fns i x a h).ln⟩
  blt := C.blt
  lcm := C.lcm
  gcd := C.gcd
  cns := C.cns
  cls := C.cls
  stm := fun h => by cases h
  ist := C.ist
  sng := C.sng
theorem Ctx.gl (C : Ctx X cl c k Φ Wx) {x : Str} (h : glB c.sc x = true) : Gl X x := by
  unfold glB at h
  split at h
  · rename_i e
    show X.env.scope.names.lookup x = _
    rw [C.sc]; exact e
  · cases h
theorem Ctx.vis (C : Ctx X cl c k Φ Wx) {x : Str} (h : visB c.sc x = true) : Vis X.env.scope x := by
  unfold visB at h
  unfold Vis
  rw [C.sc]
  split at h
  · rename_i e; exact .inl e
  · rename_i e; exact .inr (.inl e)
  · rename_i e; exact .inr (.inr e)
  · cases h
theorem Ctx.sto (C : Ctx X cl c k Φ Wx) {x : Str} (h : stoB c x = true) : L2.Loc X.env.scope x ∧ (X.fn x = true ∨ X.env.scope.names.lookup x = some .local) := by
  unfold stoB at h
  unfold L2.Loc
  rw [C.sc, C.fn]
  split at h
  · rename_i e; exact ⟨.inl e, .inr e⟩
  · rename_i e; exact ⟨.inr e, .inl h⟩
  · cases h
theorem okN_of {x : Str} (h : okN x = true) : (x == ("__debug__" : Str)) = false ∧ (x == ("__classdict__" : Str)) = false ∧ x ≠ "__name__" := by
  unfold okN at h
  simp only [Bool.and_eq_true, Bool.not_eq_true'] at h
  exact ⟨h.1.1, h.1.2, fun e => by subst e; cases h.2⟩
theorem Ctx.bl (C : Ctx X cl c k Φ Wx) {x : Str} (h : bltB c x = true) : X.mg x = none ∧ Gl X x ∧ (x == ("__debug__" : Str)) = false ∧ x ≠ "__name__" := by
  unfold bltB at h
  simp only [Bool.and_eq_true] at h
  obtain ⟨h1, _, h3⟩ := okN_of h.2
  exact ⟨C.blt x h.1.1, C.gl h.1.2, h1, h3⟩
/-! ### plain forms -/
theorem star1 {e : Expr} (h : notStar e = true) (es : List Expr) (env : Env) : starEach (e :: es) env = (false, eval e env) :: starEach es env := by
  cases e <;> first | rfl | (simp only [notStar] at h; cases h)
theorem any_false {es : List Expr} {env : Env} {pos : Pos} (h : starEach es env = es.map fun e => (false, eval e env)) : (backTo pos (starEach es env)).any (·.1) = false := by
  rw [h]
  unfold backTo
  induction es with
  | nil => rfl
  | cons e es ih =>
    simp only [List.map_cons, List.any_cons, Bool.false_or]
    have : ∀ l : List Expr, ((List.map (fun x : Bool × Sem Value => (x.1, if x.1 then (do let v ← x.2; standAt pos; pure v) else x.2)) (l.map fun e => (false, eval e env))).any (·.1)) = false := by
      intro l
      induction l with
      | nil => rfl
      | cons a l ih => simp only [List.map_cons, List.any_cons, Bool.false_or]; exact ih
    exact this es
theorem plainIx {b : Expr} (h : notSlice b = true) : PlainIx b := by
  intro o i
  cases b <;> first | rfl | (simp only [notSlice] at h; cases h)
theorem folded {e : Expr} (h : notSet e = true) (env : Env) (x : Value) : foldedSetIterable e env x = pure x := by
  cases e <;> first | rfl | (simp only [notSet] at h; cases h)
theorem noMark {b : Expr} (hb : notSet b = true) (p : CmpOp) : behindInMarks p b = false := by cases b <;> first | rfl | (simp only [notSet] at hb; cases hb)
theorem noSwap {e : Expr} (h : notComp e = true) (t : Option Expr) (l : Nat) (env : Env) : swapsWith e t l env = pure false := by
  cases e <;> first | rfl | (simp only [notComp] at h; cases h)
theorem noSole {e tg : Expr} (h : notComp e = true) (l : Nat) (env : Env) : swapsWithSole [tg] e l env = pure false := noSwap h _ _ _
theorem noStores {e tg : Expr} (h : (isTupE e && isTupE tg) = false) (env : Env) : swappedStores [tg] e env = pure none ∨ (∃ es p, tg = .List es p) := by
  cases tg <;> first
    | (refine .inl ?_; rfl)
    | exact .inr ⟨_, _, rfl⟩
    | (refine .inl ?_; cases e <;> first | rfl | (simp only [isTupE] at h; cases h))
theorem attrBase {o : Expr} (h : notCall0 o = true) (name : Str) (env : Env) : attributeBase o name env (eval o env) = eval o env := by
  cases o with
  | Call f args kws pos =>
    cases args with
    | nil => simp only [notCall0] at h; cases h
    | cons a as => cases f <;> rfl
  | _ => rfl
theorem plain_isTrue {e : Expr} (h : plainT e = true) (env : Env) (whole : Sem Value) : isTrue e env whole = (do let v ← whole; standAt e.pos; holding [v] (truthy v)) := by
  cases e with
  | UnaryOp op a p => cases op <;> first | rfl | (simp only [plainT] at h; cases h)
  | BoolOp _ _ _ => simp only [plainT] at h; cases h
  | IfExp _ _ _ _ => simp only [plainT] at h; cases h
  | Compare _ _ _ _ => simp only [plainT] at h; cases h
  | _ => rfl
theorem few_ok {es : List Expr} {env : Env} {pos : Pos} (h : starEach es env = es.map fun e => (false, eval e env)) (hl : es.length < 29) : ((backTo pos (starEach es env)).all (fun x => !x.1) && (backToKw pos (keywordEach [] env)).all (fun x => x.1.isSome)
      && decide (es.length + ([] : List Keyword).length + (if ([] : List Keyword).isEmpty then 0 else 1) < 30)) = true := by
  rw [h]
  have : ∀ l : List Expr, ((backTo pos (l.map fun e => (false, eval e env))).all (fun x => !x.1)) = true := by
    intro l
    unfold backTo
    induction l with
    | nil => rfl
    | cons a l ih => simp only [List.map_cons, List.all_cons, Bool.not_false, Bool.true_and]; exact ih
  rw [this es]
  show (true && true && decide (es.length + 0 + 0 < 30)) = true
  rw [decide_eq_true (by omega)]
  rfl
theorem asg1 {t : Expr} (h : notStar t = true) (ts : List Expr) (env : Env) : assignEach (t :: ts) env = (false, assign t env) :: assignEach ts env := by
  cases t <;> first | rfl | (simp only [notStar] at h; cases h)
theorem idx_of {N : List Str} {x : Str} {i : Nat} (h : N.idxOf? x = some i) : N[i]? = some x := by
  obtain ⟨h1, h2⟩ := (List.idxOf?_eq_some_iff).mp h
  rw [List.getElem?_eq_getElem h1]
  exact congrArg some (by simpa using h2.1)
theorem cmp_bl {ea eb : En → Hw → Res W} {o : Cop} {ρ : En} {h h' : Hw} {w : W} (e : ((ea ρ h).bind fun x h => (eb ρ h).bind fun y h => cmp o x y h) = .ok w h') : ∃ k, w = .bl k := by
  cases e1 : ea ρ h with
  | ok a h1 =>
    rw [e1] at e
    simp only [Res.bind_ok] at e
    cases e2 : eb ρ h1 with
    | ok b h2 =>
      rw [e2] at e
      simp only [Res.bind_ok] at e
      unfold cmp at e
      repeat' split at e
      all_goals first | (cases e; exact ⟨_, rfl⟩) | cases e
    | exc x h2 => rw [e2] at e; cases e
    | err => rw [e2] at e; cases e
  | exc x h1 => rw [e1] at e; cases e
  | err => rw [e1] at e; cases e
end
end Ev

set_option Elab.async false
set_option linter.all false
set_option maxRecDepth 100000
set_option maxHeartbeats 4000000
/-! EvB: the main induction. -/
namespace Ev
open PySem PySem.Spec PyProof.Rows L2

section
variable (cl : List Value)
def SG (n : Nat) : Prop := ∀ c e g, chkG n c e g = true → notStar e = true ∧ (isTupE e = true ∨ ∃ x p, e = .Name x p) ∧ ∀ (X : Cx) k Φ Wx, Ctx X cl c k Φ Wx → PG X e (gG X.K g)
def SGs (n : Nat) : Prop := ∀ c es gs, chkGs n c es gs = true → es.length = gs.length ∧ (∀ env, assignEach es env = es.map fun t => (false, assign t env)) ∧ ∀ (X : Cx) k Φ Wx, Ctx X cl c k Φ Wx → PGs X es (gGs X.K gs)
theorem sndG : ∀ n, SG cl n ∧ SGs cl n
  | 0 => ⟨fun _ _ _ h => by simp [chkG] at h, fun _ _ _ h => by simp [chkGs] at h⟩
  | n + 1 => by
    obtain ⟨iG, iGs⟩ := sndG n
    refine ⟨fun c e g h => ?_, fun c es gs h => ?_⟩
    · unfold chkG at h
      split at h
      · rename_i x p i
        simp only [Bool.and_eq_true, decide_eq_true_eq] at h
        refine ⟨rfl, .inr ⟨_, _, rfl⟩, fun X k Φ Wx C => ?_⟩
        obtain ⟨h1, h2⟩ := C.sto h.2
        unfold gG
        exact pg_name (C.N ▸ C.nd) (C.N ▸ h.1) h1 h2
      · refine ⟨rfl, .inl rfl, fun X k Φ Wx C => ?_⟩
        obtain ⟨hl, ha, hp⟩ := iGs _ _ _ h
        unfold gG
        refine pg_tup C.calm (hp X k Φ Wx C) (by rw [ha, List.length_map, hl]) ?_
        rw [ha]
        have : ∀ l : List Expr, (l.map fun t => (false, assign t X.env)).findIdx? (·.1) = none := fun l => by
          rw [List.findIdx?_eq_none_iff]
          intro x hx
          obtain ⟨t, _, rfl⟩ := List.mem_map.mp hx
          rfl
        exact this _
      · cases h
    · unfold chkGs at h
      split at h
      · exact ⟨rfl, fun _ => rfl, fun X k Φ Wx C => by unfold gGs; exact pgs_nil⟩
      · simp only [Bool.and_eq_true] at h
        obtain ⟨s1, _, p1⟩ := iG _ _ _ h.1
        obtain ⟨l2, a2, p2⟩ := iGs _ _ _ h.2
        refine ⟨by simp [l2], fun env => by rw [asg1 s1, a2]; rfl, fun X k Φ Wx C => ?_⟩
        unfold gGs
        exact pgs_cons (p1 X k Φ Wx C) (p2 X k Φ Wx C) (by rw [asg1 s1]; rfl)
      · cases h
end
/-! ### the meaning, as functions -/
section
variable (Φ : Fn)
theorem e_bin (o : Bop) (a b : IE) : evE Φ (.bin o a b) = fun ρ h => (evE Φ a ρ h).bind fun x h => (evE Φ b ρ h).bind fun y h => bop o x y h := by funext ρ h; rw [evE] <;> rfl
theorem e_var (i : Nat) : evE Φ (.var i) = fun ρ h => match ρ[i]? with | some (some w) => .ok w h | _ => .err := by funext ρ h; rw [evE] <;> rfl
theorem e_cst (w : W) : evE Φ (.cst w) = fun _ h => .ok w h := by funext ρ h; rw [evE] <;> rfl
theorem e_neg (a : IE) : evE Φ (.neg a) = fun ρ h => (evE Φ a ρ h).bind fun x h => match x with | .int i => .ok (.int (-i)) h | _ => .err := by funext ρ h; rw [evE] <;> rfl
theorem e_cmp (o : Cop) (a b : IE) : evE Φ (.cmp o a b) = fun ρ h => (evE Φ a ρ h).bind fun x h => (evE Φ b ρ h).bind fun y h => cmp o x y h := by funext ρ h; rw [evE] <;> rfl
theorem e_and (a b : IE) : evE Φ (.and a b) = fun ρ h => (evE Φ a ρ h).bind fun x h => match truth x h with | some true => evE Φ b ρ h | some false => .ok x h | none => .err := by funext ρ h; rw [evE] <;> rfl
theorem e_or (a b : IE) : evE Φ (.or a b) = fun ρ h => (evE Φ a ρ h).bind fun x h => match truth x h with | some true => .ok x h | some false => evE Φ b ρ h | none => .err := by funext ρ h; rw [evE] <;> rfl
theorem e_not (a : IT) : evE Φ (.not a) = fun ρ h => (evT Φ a ρ h).bind fun k h => .ok (.bl (!k)) h := by funext ρ h; rw [evE] <;> rfl
theorem e_ite (c : IT) (a b : IE) : evE Φ (.ite c a b) = fun ρ h => (evT Φ c ρ h).bind fun k h => if k = true then evE Φ a ρ h else evE Φ b ρ h := by funext ρ h; rw [evE] <;> rfl
theorem e_tup (es : IEs) : evE Φ (.tup es) = fun ρ h => (evEs Φ es ρ h).bind fun vs h => if vs.length ≤ lim then .ok (.tup vs) h else .err := by funext ρ h; rw [evE] <;> rfl
theorem e_lst (es : IEs) : evE Φ (.lst es) = fun ρ h => (evEs Φ es ρ h).bind fun vs h => if vs.length ≤ lim then .ok (.ref h.length) (h ++ [.lst vs]) else .err := by funext ρ h; rw [evE] <;> rfl
theorem e_idx (a b : IE) : evE Φ (.idx a b) = fun ρ h => (evE Φ a ρ h).bind fun x h => (evE Φ b ρ h).bind fun y h => item x y h := by funext ρ h; rw [evE] <;> rfl
theorem e_slc (a : IE) (lo hi : IP) : evE Φ (.slc a lo hi) = fun ρ h => (evE Φ a ρ h).bind fun x h => (evP Φ lo ρ h).bind fun l h => (evP Φ hi ρ h).bind fun u h => slice x l u h := by funext ρ h; rw [evE] <;> rfl
theorem e_call (f : Nat) (es : IEs) : evE Φ (.call f es) = fun ρ h => (evEs Φ es ρ h).bind fun vs h => Φ f vs h := by funext ρ h; rw [evE] <;> rfl
theorem e_bi (f : Bi) (es : IEs) : evE Φ (.bi f es) = fun ρ h => (evEs Φ es ρ h).bind fun vs h => bi f vs h := by funext ρ h; rw [evE] <;> rfl
theorem e_bl (f : Bl) (l : IL) : evE Φ (.bl f l) = fun ρ h => (evL Φ l ρ h).bind fun q h => bl f q.1 h := by funext ρ h; rw [evE] <;> rfl
theorem e_mt (f : Mt) (o : IE) (es : IEs) : evE Φ (.mt f o es) = fun ρ h => (evE Φ o ρ h).bind fun x h => match x with
    | .ref n => (match h[n]? with | some (.lst _) => (evEs Φ es ρ h).bind fun vs h => mt f x vs h | _ => .err)
    | _ => .err := by funext ρ h; rw [evE] <;> rfl
theorem e_mk (l : IL) : evE Φ (.mk l) = fun ρ h => (evL Φ l ρ h).bind fun q h => .ok (.ref h.length) (h ++ [.lst q.1]) := by funext ρ h; rw [evE] <;> rfl
theorem e_lr1 (a : IE) : evE Φ (.lr1 a) = fun ρ h => (evE Φ a ρ h).bind fun x h => match x with
    | .int j => if -(2 ^ 62) ≤ j ∧ j ≤ 16777216 then .ok (.ref h.length) (h ++ [.lst (rng 0 (j - 0).toNat)]) else .err
    | _ => .err := by funext ρ h; rw [evE] <;> rfl
theorem e_lr2 (a b : IE) : evE Φ (.lr2 a b) = fun ρ h => (evE Φ a ρ h).bind fun x h => (evE Φ b ρ h).bind fun y h => match x, y with
    | .int i, .int j => if -(2 ^ 62) ≤ i ∧ i < 2 ^ 62 ∧ -(2 ^ 62) ≤ j ∧ j < 2 ^ 62 ∧ (j - i).toNat ≤ lim then .ok (.ref h.length) (h ++ [.lst (rng i (j - i).toNat)]) else .err
    | _, _ => .err := by funext ρ h; rw [evE] <;> rfl
theorem e_maxD (l : IL) (j : Int) : evE Φ (.maxD l j) = fun ρ h => (evL Φ l ρ h).bind fun q h => maxDf q.1 q.2.2 j h := by funext ρ h; rw [evE] <;> rfl
theorem e_srt (l : IL) : evE Φ (.srt l) = fun ρ h => (evL Φ l ρ h).bind fun q h => srtf q.1 q.2.2 h := by funext ρ h; rw [evE] <;> rfl
theorem e_aa (k : Bool) (l : IL) : evE Φ (.aa k l) = fun ρ h => (evL Φ l ρ h).bind fun q h => aaf k q.1 q.2.2 h := by funext ρ h; rw [evE] <;> rfl
theorem e_tr2 (a b : IE) : evE Φ (.tr2 a b) = fun ρ h => (evE Φ a ρ h).bind fun x h => (evE Φ b ρ h).bind fun y h => match x, y with
    | .int i, .int j => if -(2 ^ 62) ≤ i ∧ i < 2 ^ 62 ∧ -(2 ^ 62) ≤ j ∧ j < 2 ^ 62 ∧ (j - i).toNat ≤ lim then .ok (.tup (rng i (j - i).toNat)) h else .err
    | _, _ => .err := by funext ρ h; rw [evE] <;> rfl
theorem e_glc (w : W) : evE Φ (.glc w) = fun _ h => .ok w h := by funext ρ h; rw [evE] <;> rfl
theorem e_rgN (a : IE) : evE Φ (.rgN a) = fun ρ h => (evE Φ a ρ h).bind fun x h => match x with
    | .int j => .ok (.rg 0 j) h
    | _ => .err := by funext ρ h; rw [evE] <;> rfl
theorem e_dnew : evE Φ .dnew = fun ρ h => .ok (.ref h.length) (h ++ [.dic false []]) := by funext ρ h; rw [evE] <;> rfl
theorem e_dget (d k : IE) : evE Φ (.dget d k) = fun ρ h => (evE Φ d ρ h).bind fun x h => (evE Φ k ρ h).bind fun y h => dgetV x y h := by funext ρ h; rw [evE] <;> rfl
theorem e_din (b : Bool) (k d : IE) : evE Φ (.din b k d) = fun ρ h => (evE Φ k ρ h).bind fun y h => (evE Φ d ρ h).bind fun x h => dinV b y x h := by funext ρ h; rw [evE] <;> rfl
theorem e_dgt (d k z : IE) : evE Φ (.dgt d k z) = fun ρ h => (evE Φ d ρ h).bind fun x h => match x with
    | .ref n => (match h[n]? with
      | some (.dic _ _) => (evE Φ k ρ h).bind fun y h => (evE Φ z ρ h).bind fun z h => dgtV (.ref n) y z h
      | _ => .err)
    | _ => .err := by
  funext ρ h
  rw [evE]
  congr 1
  funext x h
  cases x <;> rfl
theorem e_dst (d k z : IE) : evE Φ (.dst d k z) = fun ρ h => (evE Φ d ρ h).bind fun x h => match x with
    | .ref n => (match h[n]? with
      | some (.dic _ _) => (evE Φ k ρ h).bind fun y h => (evE Φ z ρ h).bind fun z h => dstV (.ref n) y z h
      | _ => .err)
    | _ => .err := by
  funext ρ h
  rw [evE]
  congr 1
  funext x h
  cases x <;> rfl
theorem e_dmk (l : IL) : evE Φ (.dmk l) = fun ρ h => (evL Φ l ρ h).bind fun q h => dmkV q.1 h := by funext ρ h; rw [evE] <;> rfl
theorem e_dcp (e : IE) : evE Φ (.dcp e) = fun ρ h => (evE Φ e ρ h).bind fun x h => dcpV x h := by funext ρ h; rw [evE] <;> rfl
theorem e_ddl (es : IEs) : evE Φ (.ddl es) = fun ρ h => (evEs Φ es ρ (h ++ [.dic false []])).bind fun vs h' => ddlV h.length vs h' := by funext ρ h; rw [evE] <;> rfl
theorem e_dcm (g : IG) (it : II) (ts : ITs) (k v : IE) (own : List Nat) : evE Φ (.dcm g it ts k v own) = fun ρ h => (evI Φ it ρ h).bind fun q h => (compD g q.2 (evTs Φ ts) (evE Φ k) (evE Φ v) own h.length ρ q.1 (h ++ [.dic false []])).bind fun _ h' => .ok (.ref h.length) h' := by funext ρ h; rw [evE] <;> rfl
theorem e_dvm (e : IE) : evE Φ (.dvm e) = fun ρ h => (evE Φ e ρ h).bind fun x h => dvmV x h := by funext ρ h; rw [evE] <;> rfl
theorem e_dsr (e : IE) : evE Φ (.dsr e) = fun ρ h => (evE Φ e ρ h).bind fun x h => dsrV x h := by funext ρ h; rw [evE] <;> rfl
theorem e_trv (l : IL) : evE Φ (.trv l) = fun ρ h => (evL Φ l ρ h).bind fun q h => .ok (.tup q.1.reverse) h := by funext ρ h; rw [evE] <;> rfl
theorem e_tix (a b : IE) : evE Φ (.tix a b) = fun ρ h => (evE Φ a ρ h).bind fun x h => match x with
    | .tup xs => (evE Φ b ρ h).bind fun y h => tixV (.tup xs) y h
    | _ => .err := by funext ρ h; rw [evE] <;> rfl
theorem e_srtD (l : IL) : evE Φ (.srtD l) = fun ρ h => (evL Φ l ρ h).bind fun q h => srtDf q.1 q.2.2 h := by funext ρ h; rw [evE] <;> rfl
theorem e_lck (g e : IE) : evE Φ (.lck g e) = fun ρ h => match lkOf (evE Φ g ρ h) h with
    | some (n, kvs) => (evE Φ e ρ (h.set n (.dic true kvs))).bind fun x h' => match unlk n h' with
      | some h2 => .ok x h2
      | none => .err
    | none => .err := by funext ρ h; rw [evE] <;> rfl
theorem e_chn (o p : Cop) (a b c : IE) : evE Φ (.chn o p a b c) = fun ρ h => (evE Φ a ρ h).bind fun x h => (evE Φ b ρ h).bind fun y h => (cmp o x y h).bind fun k h => match k with
    | .bl true => (evE Φ c ρ h).bind fun z h => cmp p y z h
    | .bl false => .ok (.bl false) h
    | _ => .err := by funext ρ h; rw [evE] <;> rfl
theorem ei_dk (e : IE) : evI Φ (.dk e) = fun ρ h => (evE Φ e ρ h).bind fun x h => match dkV x h with
    | some xs => .ok (xs, []) h
    | none => .err := by funext ρ h; rw [evI] <;> rfl
theorem ei_di (e : IE) : evI Φ (.di e) = fun ρ h => (evE Φ e ρ h).bind fun x h => match diV x h with
    | some xs => .ok (xs, []) h
    | none => .err := by funext ρ h; rw [evI] <;> rfl
theorem es_nil : evEs Φ .nil = fun _ h => .ok [] h := by funext ρ h; rw [evEs] <;> rfl
theorem es_cons (e : IE) (es : IEs) : evEs Φ (.cons e es) = fun ρ h => (evE Φ e ρ h).bind fun x h => (evEs Φ es ρ h).bind fun xs h => .ok (x :: xs) h := by funext ρ h; rw [evEs] <;> rfl
theorem ep_no : evP Φ .no = fun _ h => .ok none h := by funext ρ h; rw [evP] <;> rfl
theorem ep_at (e : IE) : evP Φ (.at e) = fun ρ h => (evE Φ e ρ h).bind fun x h => match x with | .int i => .ok (some i) h | _ => .err := by funext ρ h; rw [evP] <;> rfl
theorem et_val (e : IE) : evT Φ (.val e) = fun ρ h => (evE Φ e ρ h).bind fun x h => match truth x h with | some k => .ok k h | none => .err := by funext ρ h; rw [evT] <;> rfl
theorem et_and (a b : IT) : evT Φ (.and a b) = fun ρ h => (evT Φ a ρ h).bind fun k h => if k = true then evT Φ b ρ h else .ok false h := by funext ρ h; rw [evT] <;> rfl
theorem et_or (a b : IT) : evT Φ (.or a b) = fun ρ h => (evT Φ a ρ h).bind fun k h => if k = true then .ok true h else evT Φ b ρ h := by funext ρ h; rw [evT] <;> rfl
theorem et_not (a : IT) : evT Φ (.not a) = fun ρ h => (evT Φ a ρ h).bind fun k h => .ok (!k) h := by funext ρ h; rw [evT] <;> rfl
theorem el_of (e : IE) : evL Φ (.of e) = fun ρ h => (evE Φ e ρ h).bind fun x h => match seqOf h x with | some xs => .ok (xs, guOf x xs, isTup x) h | none => .err := by funext ρ h; rw [evL] <;> rfl
theorem el_disp (es : IEs) : evL Φ (.disp es) = fun ρ h => (evEs Φ es ρ h).bind fun vs h => if vs.length ≤ lim then .ok (vs, [], false) h else .err := by funext ρ h; rw [evL] <;> rfl
theorem el_comp (g : IG) (it : II) (ts : ITs) (elt : IE) (own : List Nat) : evL Φ (.comp g it ts elt own) = fun ρ h => (evI Φ it ρ h).bind fun q h => (compL g q.2 (fun ρ h => evTs Φ ts ρ h) (fun ρ h => evE Φ elt ρ h) own ρ q.1 h []).bind fun ys h => .ok (ys, [], false) h := by funext ρ h; rw [evL] <;> rfl
theorem el_comp2 (g : IG) (it : II) (ts : ITs) (g2 : IG) (it2 : II) (ts2 : ITs) (elt : IE) (own own2 : List Nat) : evL Φ (.comp2 g it ts g2 it2 ts2 elt own own2) = fun ρ h => (evI Φ it ρ h).bind fun q h => (compM g q.2 (fun ρ h => evTs Φ ts ρ h) (fun ρ h acc => (evI Φ it2 ρ h).bind fun q2 h => compL g2 q2.2 (fun ρ h => evTs Φ ts2 ρ h) (fun ρ h => evE Φ elt ρ h) own2 ρ q2.1 h acc) own ρ q.1 h []).bind fun ys h => .ok (ys, [], false) h := by funext ρ h; rw [evL] <;> rfl
theorem ets_nil : evTs Φ .nil = fun _ h => .ok true h := by funext ρ h; rw [evTs] <;> rfl
theorem ets_cons (t : IT) (ts : ITs) : evTs Φ (.cons t ts) = fun ρ h => (evT Φ t ρ h).bind fun k h => if k = true then evTs Φ ts ρ h else .ok false h := by funext ρ h; rw [evTs] <;> rfl
theorem ei_of (l : IL) : evI Φ (.of l) = fun ρ h => (evL Φ l ρ h).bind fun q h => .ok (q.1, q.2.1) h := by funext ρ h; rw [evI] <;> rfl
theorem ei_rng1 (a : IE) : evI Φ (.rng1 a) = fun ρ h => (evE Φ a ρ h).bind fun x h => match x with
    | .int j => if -(2 ^ 62) ≤ j ∧ j < 2 ^ 62 then .ok (rng 0 j.toNat, []) h else .err
    | _ => .err := by funext ρ h; rw [evI] <;> rfl
theorem ei_rng2 (a b : IE) : evI Φ (.rng2 a b) = fun ρ h => (evE Φ a ρ h).bind fun x h => (evE Φ b ρ h).bind fun y h => match x, y with
    | .int i, .int j => if -(2 ^ 62) ≤ i ∧ i < 2 ^ 62 ∧ -(2 ^ 62) ≤ j ∧ j < 2 ^ 62 then .ok (rng i (j - i).toNat, []) h else .err
    | _, _ => .err := by funext ρ h; rw [evI] <;> rfl
theorem ei_rv (l : IL) : evI Φ (.rv l) = fun ρ h => (evL Φ l ρ h).bind fun q h => .ok (q.1.reverse, q.2.1) h := by funext ρ h; rw [evI] <;> rfl
theorem ei_rng3 (a b : IE) : evI Φ (.rng3 a b) = fun ρ h => (evE Φ a ρ h).bind fun x h => (evE Φ b ρ h).bind fun y h => match x, y with
    | .int i, .int j => if -(2 ^ 62) ≤ i ∧ i < 2 ^ 62 ∧ -(2 ^ 62) ≤ j ∧ j < 2 ^ 62 then .ok (rngd i (i - j).toNat, []) h else .err
    | _, _ => .err := by funext ρ h; rw [evI] <;> rfl
theorem ei_rgR (a : IE) : evI Φ (.rgR a) = fun ρ h => (evE Φ a ρ h).bind fun x h => match x with
    | .int j => if -(2 ^ 62) ≤ j ∧ j < 2 ^ 62 then .ok (rngd ((j.toNat : Int) - 1) j.toNat, []) h else .err
    | _ => .err := by funext ρ h; rw [evI] <;> rfl
theorem ei_rgv (e : IE) : evI Φ (.rgv e) = fun ρ h => (evE Φ e ρ h).bind fun x h => match x with
    | .rg i j => if -(2 ^ 62) ≤ i ∧ i < 2 ^ 62 ∧ -(2 ^ 62) ≤ j ∧ j < 2 ^ 62 then .ok (rng i (j - i).toNat, []) h else .err
    | _ => .err := by funext ρ h; rw [evI] <;> rfl
theorem ei_zip (a b : IL) : evI Φ (.zip a b) = fun ρ h => (evL Φ a ρ h).bind fun p h => (evL Φ b ρ h).bind fun q h => .ok ((p.1.zip q.1).map fun z => .tup [z.1, z.2], p.2.1 ++ q.2.1) h := by funext ρ h; rw [evI] <;> rfl
theorem ei_enum (a : IL) : evI Φ (.enum a) = fun ρ h => (evL Φ a ρ h).bind fun p h => .ok (((List.range p.1.length).zip p.1).map fun z => .tup [.int (z.1 : Nat), z.2], p.2.1) h := by funext ρ h; rw [evI] <;> rfl
end
/-! ### expressions -/
section
variable (cl : List Value)
def SE (n : Nat) : Prop := ∀ c e ie, chkE n c e ie = true → ∀ (X : Cx) k Φ Wx, Ctx X cl c k Φ Wx → PE X e (tE (gx X cl) Wx (evE Φ ie))
def SB (n : Nat) : Prop := ∀ c op es ie, chkB n c op es ie = true → ∀ (X : Cx) k Φ Wx pos, Ctx X cl c k Φ Wx → PE X (.BoolOp op es pos) (tE (gx X cl) Wx (evE Φ ie))
def SEs (n : Nat) : Prop := ∀ c es ies, chkEs n c es ies = true → (∀ env, starEach es env = es.map fun e => (false, eval e env)) ∧ ∀ (X : Cx) k Φ Wx, Ctx X cl c k Φ Wx → PA X es (tEs (gx X cl) Wx (evEs Φ ies))
def SP' (n : Nat) : Prop := ∀ c e ie, chkP n c e ie = true → ∀ (X : Cx) k Φ Wx, Ctx X cl c k Φ Wx → PO X e (tP (gx X cl) Wx (evP Φ ie))
def ST (n : Nat) : Prop := ∀ c e it, chkT n c e it = true → ∀ (X : Cx) k Φ Wx, Ctx X cl c k Φ Wx → PT X e (tT (gx X cl) Wx (evT Φ it))
def SW (n : Nat) : Prop := ∀ c op es it, chkW n c op es it = true → ∀ (X : Cx) k Φ Wx pos, Ctx X cl c k Φ Wx → PW X (.BoolOp op es pos) (tT (gx X cl) Wx (evT Φ it))
def SL (n : Nat) : Prop := ∀ c e il, chkL n c e il = true → ∀ (X : Cx) k Φ Wx, Ctx X cl c k Φ Wx → PE X e (tL (gx X cl) Wx (evL Φ il))
/-- a comprehension's parts -/
def SC (n : Nat) : Prop := ∀ c elt gs scope pos g it ts el own0, chkL n c (.ListComp elt gs scope pos) (.comp g it ts el own0) = true → ∃ tg iter ifs own, gs = [⟨tg, iter, ifs, 0⟩] ∧ own0 = own.map (·.2) ∧ blkC c.N c.sc scope own = true ∧ notSet iter = true ∧ (∀ i ∈ slots g, i ∈ own.map (·.2)) ∧
  ∀ (X : Cx) k Φ Wx, Ctx X cl c k Φ Wx → PI X tg iter (tI (gx X cl) g Wx (evI Φ it)) ∧ (∀ (s : Shared) (H : Hp) (C : Addr) (cs : List (Str × Addr)) (fp : List Addr), PG (X.blk s H scope (compEnvC scope cs C X.env) fp) tg (gG X.K g) ∧ PTs (X.blk s H scope (compEnvC scope cs C X.env) fp) ifs (tT (gx X cl) noX (evTs Φ ts)) ∧ PE (X.blk s H scope (compEnvC scope cs C X.env) fp) elt (tE (gx X cl) noX (evE Φ el)))
def SC2 (n : Nat) : Prop := ∀ c elt gs scope pos g it ts g2 it2 ts2 el own0 own2, chkL n c (.ListComp elt gs scope pos) (.comp2 g it ts g2 it2 ts2 el own0 own2) = true → ∃ tg iter ifs tg1 iter1 ifs1 own, gs = [⟨tg, iter, ifs, 0⟩, ⟨tg1, iter1, ifs1, 0⟩] ∧ own0 = own.map (·.2) ∧ blkC c.N c.sc scope own = true ∧ notSet iter = true ∧ notSet iter1 = true ∧ (∀ i ∈ slots g, i ∈ own.map (·.2)) ∧ (∀ i ∈ slots g2, i ∈ own2) ∧ (∀ i ∈ own2, i ∈ own.map (·.2)) ∧
  ∀ (X : Cx) k Φ Wx, Ctx X cl c k Φ Wx → PI X tg iter (tI (gx X cl) g Wx (evI Φ it)) ∧ (∀ (s : Shared) (H : Hp) (C : Addr) (cs : List (Str × Addr)) (fp : List Addr), PG (X.blk s H scope (compEnvC scope cs C X.env) fp) tg (gG X.K g) ∧ PTs (X.blk s H scope (compEnvC scope cs C X.env) fp) ifs (tT (gx X cl) noX (evTs Φ ts)) ∧
    PI (X.blk s H scope (compEnvC scope cs C X.env) fp) tg1 iter1 (tI2 (gx X cl) g2 noX (evI Φ it2)) ∧ PG (X.blk s H scope (compEnvC scope cs C X.env) fp) tg1 (gG X.K g2) ∧ PTs (X.blk s H scope (compEnvC scope cs C X.env) fp) ifs1 (tT (gx X cl) noX (evTs Φ ts2)) ∧ PE (X.blk s H scope (compEnvC scope cs C X.env) fp) elt (tE (gx X cl) noX (evE Φ el)))
def SJ (n : Nat) : Prop := ∀ c e ii, chkJ n c e ii = true → ∀ (X : Cx) tg ig k Φ Wx, Ctx X cl c k Φ Wx → PI X tg e (tI2 (gx X cl) ig Wx (evI Φ ii))
def STs (n : Nat) : Prop := ∀ c es its, chkTs n c es its = true → ∀ (X : Cx) k Φ Wx, Ctx X cl c k Φ Wx → PTs X es (tT (gx X cl) Wx (evTs Φ its))
def SI (n : Nat) : Prop := ∀ c tg e ii, chkI n c tg e ii = true → ∀ (X : Cx) ig k Φ Wx, (isTupE tg = true → ∃ ts, ig = .tup ts) → Ctx X cl c k Φ Wx → PI X tg e (tI (gx X cl) ig Wx (evI Φ ii))
theorem chkG_tup {n : Nat} {c : Cc} {tg : Expr} {g : IG} (h : chkG n c tg g = true) : isTupE tg = true → ∃ ts, g = .tup ts := fun ht => by
  cases n with
  | zero => simp [chkG] at h
  | succ n =>
    cases tg <;> first | (simp only [isTupE] at ht; cases ht; done) | skip
    unfold chkG at h
    cases g with
    | tup ts => exact ⟨ts, rfl⟩
    | var i => cases h
/-- a dict comprehension's parts -/
def SM (n : Nat) : Prop := ∀ c kx vx gs scope pos g it ts ek ev own0, chkM n c (.DictComp kx vx gs scope pos) (.dcm g it ts ek ev own0) = true → ∃ tg iter ifs own, gs = [⟨tg, iter, ifs, 0⟩] ∧ own0 = own.map (·.2) ∧ blkC c.N c.sc scope own = true ∧ notSet iter = true ∧ (∀ i ∈ slots g, i ∈ own.map (·.2)) ∧
  ∀ (X : Cx) k Φ Wx, Ctx X cl c k Φ Wx → PI X tg iter (tI (gx X cl) g Wx (evI Φ it)) ∧ (∀ (s : Shared) (H : Hp) (C : Addr) (cs : List (Str × Addr)) (fp : List Addr), PG (X.blk s H scope (compEnvC scope cs C X.env) fp) tg (gG X.K g) ∧ PTs (X.blk s H scope (compEnvC scope cs C X.env) fp) ifs (tT (gx X cl) noX (evTs Φ ts)) ∧
    PE (X.blk s H scope (compEnvC scope cs C X.env) fp) kx (tE (gx X cl) noX (evE Φ ek)) ∧ PE (X.blk s H scope (compEnvC scope cs C X.env) fp) vx (tE (gx X cl) noX (evE Φ ev)))
def SX (n : Nat) : Prop := ∀ c e ie, chkX n c e ie = true → ∀ (X : Cx) k Φ Wx, Ctx X cl c k Φ Wx → PE X e (tE (gx X cl) Wx (evE Φ ie))
def SD (n : Nat) : Prop := ∀ c ks vs es, chkD n c ks vs es = true → ∀ (X : Cx) k Φ Wx pos, Ctx X cl c k Φ Wx → ∃ trs, PPs X pos ks vs trs ∧ ∀ σ H (Q : List (V × V) → Hp → Prop), tR (gx X cl) Wx (RepL (gx X cl).K) (evEs Φ es) σ H (fun vs H' => Q (pairUp vs) H') → tPairs trs σ H Q

theorem opOf {op : Operator} {o : Bop} (h : bopB op o = true) (X : Cx) : ∃ r, OpR X (binaryOp op) r ∧ OpS (gx X cl) r (bop o) := by
  cases op <;> cases o <;> first
    | (simp only [bopB] at h; cases h; done)
    | exact ⟨_, op_addA, addS (G := gx X cl)⟩
    | exact ⟨_, op_sub, subS⟩
    | exact ⟨_, op_mulA, mulS (G := gx X cl)⟩
    | exact ⟨_, op_fdivW, fdivS⟩
    | exact ⟨_, op_mod, modS⟩
    | exact ⟨_, op_pow, powS⟩
theorem cmOf {op : CmpOp} {o : Cop} (h : copB op o = true) (X : Cx) (hu : X.A.units + 65 < cLine) (b : Expr) (hb : notSet b = true) : (∃ r, OpR X (compareOp op) r ∧ OpS (gx X cl) r (cmp o)) ∧ behindInMarks op b = false := by
  have hx : ∀ p, behindInMarks p b = false := fun p => by cases b <;> first | rfl | (simp only [notSet] at hb; cases hb)
  have hu2 := hu
  have hu : X.A.units + 64 < cLine := by omega
  cases op <;> cases o <;> first
    | (simp only [copB] at h; cases h; done)
    | exact ⟨⟨_, op_eqD hu, eqS (G := gx X cl)⟩, nomark _⟩
    | exact ⟨⟨_, op_neD hu, neS (G := gx X cl)⟩, nomark _⟩
    | exact ⟨⟨_, op_lt, ltS⟩, nomark _⟩
    | exact ⟨⟨_, op_le, leS⟩, nomark _⟩
    | exact ⟨⟨_, op_gt, gtS⟩, nomark _⟩
    | exact ⟨⟨_, op_ge, geS⟩, nomark _⟩
    | exact ⟨⟨_, op_inX (by omega), inS (G := gx X cl)⟩, hx _⟩
    | exact ⟨⟨_, op_notInX (by omega), ninS (G := gx X cl)⟩, hx _⟩
theorem cnOf {op : CmpOp} {o : Cop} (h : copN op o = true) (X : Cx) (hu : X.A.units + 65 < cLine) : ∃ r, OpR X (compareOp op) r ∧ OpS (gx X cl) r (cmp o) := by
  have hu : X.A.units + 64 < cLine := by omega
  cases op <;> cases o <;> first
    | (simp only [copN] at h; cases h; done)
    | exact ⟨_, op_eqD hu, eqS (G := gx X cl)⟩
    | exact ⟨_, op_neD hu, neS (G := gx X cl)⟩
    | exact ⟨_, op_lt, ltS⟩
    | exact ⟨_, op_le, leS⟩
    | exact ⟨_, op_gt, gtS⟩
    | exact ⟨_, op_ge, geS⟩
theorem cn_marks {op op' : CmpOp} {o o' : Cop} (h : copN op o = true) (h' : copN op' o' = true) (b d : Expr) : lastMarks [op, op'] [b, d] = false := by
  have q : behindInMarks op' d = false := by
    cases op' <;> first
      | (cases o' <;> simp only [copN] at h' <;> cases h'; done)
      | exact nomark _
  have e : lastMarks [op, op'] [b, d] = behindInMarks op' d := by rw [lastMarks, lastMarks] <;> (intros; simp_all)
  rw [e]; exact q
theorem cn_ok {op : CmpOp} {o : Cop} (hc : copN op o = true) (x y : W) (h : Hw) : (∃ k, cmp o x y h = .ok (.bl k) h) ∨ cmp o x y h = .err := by
  have key : o = .eq ∨ o = .ne ∨ o = .lt ∨ o = .le ∨ o = .gt ∨ o = .ge := by
    cases o <;> first
      | (exact .inl rfl)
      | (exact .inr (.inl rfl))
      | (exact .inr (.inr (.inl rfl)))
      | (exact .inr (.inr (.inr (.inl rfl))))
      | (exact .inr (.inr (.inr (.inr (.inl rfl)))))
      | (exact .inr (.inr (.inr (.inr (.inr rfl)))))
      | (cases op <;> exact absurd hc Bool.false_ne_true)
  rcases key with rfl | rfl | rfl | rfl | rfl | rfl
  · show (∃ k, (match eqW x y h with | some k => Res.ok (W.bl k) h | none => .err) = .ok (.bl k) h) ∨ (match eqW x y h with | some k => Res.ok (W.bl k) h | none => .err) = .err
    cases eqW x y h with
    | none => exact .inr rfl
    | some k => exact .inl ⟨_, rfl⟩
  · show (∃ k, (match eqW x y h with | some k => Res.ok (W.bl (!k)) h | none => .err) = .ok (.bl k) h) ∨ (match eqW x y h with | some k => Res.ok (W.bl (!k)) h | none => .err) = .err
    cases eqW x y h with
    | none => exact .inr rfl
    | some k => exact .inl ⟨_, rfl⟩
  all_goals (cases x <;> first | exact .inr rfl | (cases y <;> first | exact .inr rfl | exact .inl ⟨_, rfl⟩))
theorem cn_bl {op : CmpOp} {o : Cop} (hc : copN op o = true) (x y : W) (h : Hw) (w : W) (h' : Hw) (e : cmp o x y h = .ok w h') : ∃ k, w = .bl k := by
  rcases cn_ok hc x y h with ⟨k, z⟩ | z
  · rw [z] at e; cases e; exact ⟨k, rfl⟩
  · rw [z] at e; cases e
theorem one_arg {args : List Expr} {n : Nat} (h : args.length = n + 1) : ∃ a as, args = a :: as ∧ as.length = n := by
  cases args with
  | nil => simp at h
  | cons a as => exact ⟨a, as, rfl, by simpa using h⟩
end
end Ev

set_option Elab.async false
set_option linter.all false
set_option maxRecDepth 100000
set_option maxHeartbeats 8000000
/-! EvC: the judgement of every expression that fits. -/
namespace Ev
open PySem PySem.Spec PyProof.Rows L2
section
variable (cl : List Value)
theorem blk_kind {N : List Str} {sc scope : Scope} {own : List (Str × Nat)} (h : blkC N sc scope own = true) : scope.kind = .function := (blkOk_by h).kind
/-- a call of a built-in function that fits -/
theorem biOf {b : Bi} {f : Str} {args : List Expr} {pos p : Pos} {c : Cc} {X : Cx} {k : Nat} {Φ : Fn} {Wx : WX} {ees : En → Hw → Res (List W)} (C : Ctx X cl c k Φ Wx) (hb : biB b args.length f = true) (hg : bltB c f = true)
    (hs : ∀ env, starEach args env = args.map fun e => (false, eval e env)) (ha : PA X args (tEs (gx X cl) Wx ees)) :
    PE X (.Call (.Name f p) args [] pos) (tE (gx X cl) Wx fun ρ h => (ees ρ h).bind fun vs h => bi b vs h) := by
  obtain ⟨h1, h2, h3, h4⟩ := C.bl hg
  have st : ∀ {a : Expr} {as : List Expr}, args = a :: as → starEach (a :: as) X.env = (false, eval a X.env) :: starEach as X.env ∧ (backTo pos (starEach as X.env)).any (·.1) = false := fun {a as} e => by
    subst e
    have q := hs X.env
    have ns : notStar a = true := by
      cases a <;> first | rfl | (simp [starEach] at q; done)
    have q1 := star1 ns as X.env
    refine ⟨q1, any_false ?_⟩
    rw [q1] at q
    simpa using q
  cases b with
  | abs =>
    simp only [biB, Bool.and_eq_true, beq_iff_eq] at hb
    obtain ⟨rfl, hl⟩ := hb
    obtain ⟨a, as, rfl, hl⟩ := one_arg hl
    obtain ⟨s1, s2⟩ := st rfl
    exact s_biB call_abs absS h2 h1 (by decide +kernel) ha h4 h3 s1 s2
  | toInt =>
    simp only [biB, Bool.and_eq_true, beq_iff_eq] at hb
    obtain ⟨rfl, hl⟩ := hb
    obtain ⟨a, as, rfl, hl⟩ := one_arg hl
    obtain ⟨s1, s2⟩ := st rfl
    exact s_biT call_int1 toIntS h2 h1 (by decide +kernel) ha h4 h3 s1 s2
  | max2 =>
    simp only [biB, Bool.and_eq_true, beq_iff_eq] at hb
    obtain ⟨rfl, hl⟩ := hb
    obtain ⟨a, as, rfl, hl⟩ := one_arg hl
    obtain ⟨s1, s2⟩ := st rfl
    exact s_biB (call_max2 C.calm) max2S h2 h1 (by decide +kernel) ha h4 h3 s1 s2
  | min2 =>
    simp only [biB, Bool.and_eq_true, beq_iff_eq] at hb
    obtain ⟨rfl, hl⟩ := hb
    obtain ⟨a, as, rfl, hl⟩ := one_arg hl
    obtain ⟨s1, s2⟩ := st rfl
    exact s_biB (call_min2 C.calm) min2S h2 h1 (by decide +kernel) ha h4 h3 s1 s2
  | divmod =>
    simp only [biB, Bool.and_eq_true, beq_iff_eq] at hb
    obtain ⟨rfl, hl⟩ := hb
    obtain ⟨a, as, rfl, hl⟩ := one_arg hl
    obtain ⟨s1, s2⟩ := st rfl
    exact s_biB cr_dvF dvmS h2 h1 (by decide +kernel) ha h4 h3 s1 s2
  | _ => simp only [biB] at hb; cases hb
theorem mthOf {b : Bi} {f : Str} {args : List Expr} {pos p : Pos} {c : Cc} {X : Cx} {k : Nat} {Φ : Fn} {Wx : WX} {ees : En → Hw → Res (List W)} (C : Ctx X cl c k Φ Wx) (hb : mthB b args.length f = true) (hm : c.mth.contains f = true) (hg : glB c.sc f = true) (ho : okN f = true)
    (hs : ∀ env, starEach args env = args.map fun e => (false, eval e env)) (ha : PA X args (tEs (gx X cl) Wx ees)) :
    PE X (.Call (.Name f p) args [] pos) (tE (gx X cl) Wx fun ρ h => (ees ρ h).bind fun vs h => bi b vs h) := by
  obtain ⟨h3, _, h4⟩ := okN_of ho
  have h2 := C.gl hg
  have st : ∀ {a : Expr} {as : List Expr}, args = a :: as → starEach (a :: as) X.env = (false, eval a X.env) :: starEach as X.env ∧ (backTo pos (starEach as X.env)).any (·.1) = false := fun {a as} e => by
    subst e
    have q := hs X.env
    have ns : notStar a = true := by
      cases a <;> first | rfl | (simp [starEach] at q; done)
    have q1 := star1 ns as X.env
    refine ⟨q1, any_false ?_⟩
    rw [q1] at q
    simpa using q
  cases b with
  | lcm =>
    simp only [mthB, Bool.and_eq_true, beq_iff_eq] at hb
    obtain ⟨rfl, hl⟩ := hb
    obtain ⟨a, as, rfl, hl⟩ := one_arg hl
    obtain ⟨s1, s2⟩ := st rfl
    exact s_biM cr_lcm lcmS h2 (C.lcm hm) ha h3 s1 s2
  | gcd =>
    simp only [mthB, Bool.and_eq_true, beq_iff_eq] at hb
    obtain ⟨rfl, hl⟩ := hb
    obtain ⟨a, as, rfl, hl⟩ := one_arg hl
    obtain ⟨s1, s2⟩ := st rfl
    exact s_biM cr_gcd gcdS h2 (C.gcd hm) ha h3 s1 s2
  | _ => simp only [mthB] at hb; cases hb
theorem blOf {b : Bl} {f : Str} {a : Expr} {pos p : Pos} {c : Cc} {X : Cx} {k : Nat} {Φ : Fn} {Wx : WX} {el : En → Hw → Res (List W × Gu × Bool)} (C : Ctx X cl c k Φ Wx) (hb : blB b f = true) (hg : bltB c f = true) (hs : notStar a = true) (ha : PE X a (tL (gx X cl) Wx el)) :
    PE X (.Call (.Name f p) [a] [] pos) (tE (gx X cl) Wx fun ρ h => (el ρ h).bind fun q h => bl b q.1 h) := by
  obtain ⟨h1, h2, h3, h4⟩ := C.bl hg
  have s1 : starEach [a] X.env = [(false, eval a X.env)] := star1 hs [] X.env
  cases b with
  | sum => simp only [blB, beq_iff_eq] at hb; subst hb; exact s_blB (cr_sumA C.calm) (sumS (G := gx X cl)) h2 h1 (by decide +kernel) ha h4 h3 s1
  | max => simp only [blB, beq_iff_eq] at hb; subst hb; exact s_blB (cr_maxA C.calm) (maxS (G := gx X cl)) h2 h1 (by decide +kernel) ha h4 h3 s1
  | min => simp only [blB, beq_iff_eq] at hb; subst hb; exact s_blB (cr_minA C.calm) (minS (G := gx X cl)) h2 h1 (by decide +kernel) ha h4 h3 s1
  | tuple => simp only [blB, beq_iff_eq] at hb; subst hb; exact s_blT cr_tupF (tupleS (G := gx X cl)) h2 h1 (by decide +kernel) ha h4 h3 s1
  | list => simp only [blB, beq_iff_eq] at hb; subst hb; exact s_blT call_list_of (listS (G := gx X cl)) h2 h1 (by decide +kernel) ha h4 h3 s1
  | len => simp only [blB, beq_iff_eq] at hb; subst hb; exact s_blB call_len_seq (lenS (G := gx X cl)) h2 h1 (by decide +kernel) ha h4 h3 s1
  | sorted => simp only [blB] at hb; cases hb
theorem mtOf {f : Mt} {m : Str} {args : List Expr} {o : Expr} {apos pos : Pos} {c : Cc} {X : Cx} {k : Nat} {Φ : Fn} {Wx : WX} {eo : En → Hw → Res W} {ees : En → Hw → Res (List W)} (C : Ctx X cl c k Φ Wx) (hb : mtB f args.length m = true) (hl : (apos.endLine == pos.line) = true) (h29 : args.length < 29) (h0 : notCall0 o = true)
    (hs : ∀ env, starEach args env = args.map fun e => (false, eval e env)) (ho : PE X o (tE (gx X cl) Wx eo)) (ha : PA X args (tEs (gx X cl) Wx ees)) :
    PE X (.Call (.Attribute o m apos) args [] pos) (tE (gx X cl) Wx fun ρ h => (eo ρ h).bind fun x h => match x with
      | .ref n => (match h[n]? with | some (.lst _) => (ees ρ h).bind fun vs h => mt f x vs h | _ => .err)
      | _ => .err) := by
  have st : ∀ {a : Expr} {as : List Expr}, args = a :: as → starEach (a :: as) X.env = (false, eval a X.env) :: starEach as X.env ∧ (backTo pos (starEach as X.env)).any (·.1) = false := fun {a as} e => by
    subst e
    have q := hs X.env
    have ns : notStar a = true := by
      cases a <;> first | rfl | (simp [starEach] at q; done)
    have q1 := star1 ns as X.env
    refine ⟨q1, any_false ?_⟩
    rw [q1] at q
    simpa using q
  have few := few_ok (pos := pos) (hs X.env) h29
  cases f with
  | append =>
    simp only [mtB, Bool.and_eq_true, beq_iff_eq] at hb
    obtain ⟨rfl, hn⟩ := hb
    obtain ⟨a, as, rfl, hn⟩ := one_arg hn
    obtain ⟨s1, s2⟩ := st rfl
    exact s_mt PySem.F.plainAttrs_list PySem.F.slot_list_append PySem.F.type_list_append mt_append appendS ho ha (attrBase h0 _ _) few hl s1 s2
  | extend =>
    simp only [mtB, Bool.and_eq_true, beq_iff_eq] at hb
    obtain ⟨rfl, hn⟩ := hb
    obtain ⟨a, as, rfl, hn⟩ := one_arg hn
    obtain ⟨s1, s2⟩ := st rfl
    exact s_mt PySem.F.plainAttrs_list PySem.F.slot_list_extend PySem.F.type_list_extend mt_extA extendS ho ha (attrBase h0 _ _) few hl s1 s2
  | popAt =>
    simp only [mtB, Bool.and_eq_true, beq_iff_eq] at hb
    obtain ⟨rfl, hn⟩ := hb
    obtain ⟨a, as, rfl, hn⟩ := one_arg hn
    obtain ⟨s1, s2⟩ := st rfl
    exact s_mt PySem.F.plainAttrs_list PySem.F.slot_list_pop PySem.F.type_list_pop mt_popAt popAtS ho ha (attrBase h0 _ _) few hl s1 s2
  | index =>
    simp only [mtB, Bool.and_eq_true, beq_iff_eq] at hb
    obtain ⟨rfl, hn⟩ := hb
    obtain ⟨a, as, rfl, hn⟩ := one_arg hn
    obtain ⟨s1, s2⟩ := st rfl
    exact s_mt PySem.F.plainAttrs_list PySem.F.slot_list_index PySem.F.type_list_index (mt_indexD (by have := C.room.un; omega)) indexS ho ha (attrBase h0 _ _) few hl s1 s2
  | insert =>
    simp only [mtB, Bool.and_eq_true, beq_iff_eq] at hb
    obtain ⟨rfl, hn⟩ := hb
    obtain ⟨a, as, rfl, hn⟩ := one_arg hn
    obtain ⟨s1, s2⟩ := st rfl
    exact s_mt PySem.F.plainAttrs_list PySem.F.slot_list_insert PySem.F.type_list_insert mt_insert insertS ho ha (attrBase h0 _ _) few hl s1 s2
  | remove =>
    simp only [mtB, Bool.and_eq_true, beq_iff_eq] at hb
    obtain ⟨rfl, hn⟩ := hb
    obtain ⟨a, as, rfl, hn⟩ := one_arg hn
    obtain ⟨s1, s2⟩ := st rfl
    exact s_mt PySem.F.plainAttrs_list PySem.F.slot_list_remove PySem.F.type_list_remove mt_remove removeS ho ha (attrBase h0 _ _) few hl s1 s2
  | count =>
    simp only [mtB, Bool.and_eq_true, beq_iff_eq] at hb
    obtain ⟨rfl, hn⟩ := hb
    obtain ⟨a, as, rfl, hn⟩ := one_arg hn
    obtain ⟨s1, s2⟩ := st rfl
    exact s_mt PySem.F.plainAttrs_list PySem.F.slot_list_count PySem.F.type_list_count mt_lcount countS ho ha (attrBase h0 _ _) few hl s1 s2
  | _ => simp only [mtB] at hb; cases hb
theorem lNotStar {n : Nat} {c : Cc} {e : Expr} {il : IL} (hE : ∀ c e ie, chkE n c e ie = true → notStar e = true) (h : chkL (n + 1) c e il = true) : notStar e = true := by
  unfold chkL at h
  split at h
  · rfl
  · rfl
  · rfl
  · exact hE _ _ _ h
  · cases h
theorem eNotStar : ∀ {n : Nat} {c : Cc} {e : Expr} {ie : IE}, chkE n c e ie = true → notStar e = true
  | 0, _, _, _, h => absurd h Bool.false_ne_true
  | 1, c, e, ie, h => by
    cases e with
    | Starred a b => exact absurd h (by cases ie <;> exact Bool.false_ne_true)
    | _ => rfl
  | n + 2, c, e, ie, h => by
    cases e with
    | Starred a b => exact absurd h (by cases ie <;> exact Bool.false_ne_true)
    | _ => rfl
theorem cmp1_bl {ea : En → Hw → Res W} {o : Cop} {ρ : En} {h h' : Hw} {w : W} (e : ((ea ρ h).bind fun x => cmp o x W.non) = .ok w h') : ∃ k, w = .bl k := cmp_bl (ea := ea) (eb := fun _ h => .ok .non h) (o := o) (ρ := ρ) (h := h) (h' := h') e
theorem dinV_bl {b : Bool} {ρ : En} {h h' : Hw} {ei eo : En → Hw → Res W} {w : W} (e : ((ei ρ h).bind fun y h => (eo ρ h).bind fun x h => dinV b y x h) = .ok w h') : ∃ k, w = .bl k := by
  cases e1 : ei ρ h with
  | ok a h1 =>
    rw [e1] at e
    simp only [Res.bind_ok] at e
    cases e2 : eo ρ h1 with
    | ok b' h2 =>
      rw [e2] at e
      simp only [Res.bind_ok] at e
      unfold dinV at e
      repeat' split at e
      all_goals first | (cases e; exact ⟨_, rfl⟩) | cases e
    | exc x h2 => rw [e2] at e; cases e
    | err => rw [e2] at e; cases e
  | exc x h1 => rw [e1] at e; cases e
  | err => rw [e1] at e; cases e
theorem chn_bl {op op' : CmpOp} {o o' : Cop} (h1 : copN op o = true) (h2 : copN op' o' = true) {ea eb ec : En → Hw → Res W} {ρ : En} {h h' : Hw} {w : W} (e : ((ea ρ h).bind fun x h => (eb ρ h).bind fun y h => (cmp o x y h).bind fun k h => match k with
    | .bl true => (ec ρ h).bind fun z h => cmp o' y z h
    | .bl false => .ok (.bl false) h
    | _ => .err) = .ok w h') : ∃ k, w = .bl k := by
  cases e1 : ea ρ h with
  | ok x hx =>
    rw [e1, Res.bind_ok] at e
    cases e2 : eb ρ hx with
    | ok y hy =>
      rw [e2, Res.bind_ok] at e
      rcases cn_ok h1 x y hy with ⟨k, z⟩ | z
      · rw [z, Res.bind_ok] at e
        cases k with
        | true =>
          dsimp only at e
          cases e3 : ec ρ hy with
          | ok u hu => rw [e3, Res.bind_ok] at e; exact cn_bl h2 _ _ _ _ _ e
          | exc x' h2' => rw [e3] at e; cases e
          | err => rw [e3] at e; cases e
        | false => dsimp only at e; cases e; exact ⟨_, rfl⟩
      · rw [z] at e; cases e
    | exc x' h2' => rw [e2] at e; cases e
    | err => rw [e2] at e; cases e
  | exc x' h1' => rw [e1] at e; cases e
  | err => rw [e1] at e; cases e
theorem din_test {X : Cx} {Wx : WX} {b : Bool} {ei eo : En → Hw → Res W} {td : TE} (hb : ∀ σ H (Q : VK), tE (gx X cl) Wx (fun ρ h => (ei ρ h).bind fun y h => (eo ρ h).bind fun x h => dinV b y x h) σ H Q → td σ H Q) :
    ∀ σ H (Q : Bool → Hp → Prop), tT (gx X cl) Wx (fun ρ h => ((ei ρ h).bind fun y h => (eo ρ h).bind fun x h => dinV b y x h).bind fun x h => match truth x h with | some k => .ok k h | none => .err) σ H Q → tB td σ H Q := fun σ H Q z =>
  tTestOf (sem := fun ρ h => (ei ρ h).bind fun y h => (eo ρ h).bind fun x h => dinV b y x h) (t := td) hb (fun ρ h w h' e => dinV_bl (ei := ei) (eo := eo) (ρ := ρ) (h := h) e) z
theorem s_tdin {X : Cx} {Wx : WX} {i o : Expr} {ei eo : En → Hw → Res W} {pos : Pos} (hu : X.A.units + 1 < cLine) (hi : PE X i (tE (gx X cl) Wx ei)) (ho : PE X o (tE (gx X cl) Wx eo)) (hm : behindInMarks .In o = false) :
    PT X (.Compare i [.In] [o] pos) (tT (gx X cl) Wx fun ρ h => ((ei ρ h).bind fun y h => (eo ρ h).bind fun x h => dinV true y x h).bind fun x h => match truth x h with | some k => .ok k h | none => .err) :=
  conseqT (pt_cmp (pc_din hu hi ho) hm) (din_test cl fun σ H Q z => tR.bind z fun m ρ w v h H1 rs rh r z1 => tR.next rs rh z1 fun m2 w2 v2 h2 H2 n rs2 rh2 r2 z2 => by
    obtain ⟨a, o, e1, e2, q⟩ := dinS rh2 r2 (r.mono n) z2
    exact ⟨a, o, e1, e2, by simpa using q⟩)
theorem s_tdnin {X : Cx} {Wx : WX} {i o : Expr} {ei eo : En → Hw → Res W} {pos : Pos} (hu : X.A.units + 1 < cLine) (hi : PE X i (tE (gx X cl) Wx ei)) (ho : PE X o (tE (gx X cl) Wx eo)) (hm : behindInMarks .NotIn o = false) :
    PT X (.Compare i [.NotIn] [o] pos) (tT (gx X cl) Wx fun ρ h => ((ei ρ h).bind fun y h => (eo ρ h).bind fun x h => dinV false y x h).bind fun x h => match truth x h with | some k => .ok k h | none => .err) :=
  conseqT (pt_cmp (pc_dnotin hu hi ho) hm) (din_test cl fun σ H Q z => tR.bind z fun m ρ w v h H1 rs rh r z1 => tR.next rs rh z1 fun m2 w2 v2 h2 H2 n rs2 rh2 r2 z2 => by
    obtain ⟨a, o, e1, e2, q⟩ := dinS rh2 r2 (r.mono n) z2
    exact ⟨a, o, e1, e2, by simpa using q⟩)
theorem m2_of {X : Cx} {o e f : Expr} {m : Str} {apos cpos : Pos} (h1 : (apos.endLine == cpos.line) = true) (h2 : notCall0 o = true) (h3 : notStar e = true) (h4 : notStar f = true) : M2 X o m apos e f cpos := by
  have s : starEach [e, f] X.env = [e, f].map fun e => (false, eval e X.env) := by rw [star1 h3, star1 h4]; rfl
  refine ⟨attrBase h2 _ _, few_ok s (by simp), h1, ?_⟩
  rw [s]; rfl
theorem m1_of {X : Cx} {o e : Expr} {m : Str} {apos cpos : Pos} (h1 : (apos.endLine == cpos.line) = true) (h2 : notCall0 o = true) (h3 : notStar e = true) : M1 X o m apos e cpos := by
  have s : starEach [e] X.env = [e].map fun e => (false, eval e X.env) := by rw [star1 h3]; rfl
  refine ⟨attrBase h2 _ _, few_ok s (by simp), h1, ?_⟩
  rw [s]; rfl
theorem compOf {n : Nat} (iE : SE cl n) (iTs : STs cl n) (iI : SI cl n) : SC cl (n + 1) := fun c elt gs scope pos g it ts el own0 h => by
  unfold chkL at h
  split at h
  · rename_i e1 e2
    cases e1
    cases e2
    simp only [Bool.and_eq_true, decide_eq_true_eq, List.all_eq_true] at h
    obtain ⟨⟨⟨⟨⟨⟨⟨h1, h2⟩, h3⟩, h4⟩, h5⟩, h6⟩, h7⟩, h8⟩ := h
    subst h1
    refine ⟨_, _, _, ownOf c scope, rfl, rfl, h2, h4, fun i hi => by simpa using h8 i hi, fun X k Φ Wx C => ⟨iI _ _ _ _ h3 X g k Φ Wx (chkG_tup h5) C, fun s H A cs fp => ?_⟩⟩
    have C' := C.blk (blk_kind h2) s H A cs fp
    exact ⟨((sndG cl n).1 _ _ _ h5).2.2 _ k Φ noX C', iTs _ _ _ h6 _ k Φ noX C', iE _ _ _ h7 _ k Φ noX C'⟩
  · rename_i e1 e2
    cases e2
  · rename_i e1 e2
    cases e1
  · rename_i e1 e2
    cases e2
  · cases h
theorem dcmOf {n : Nat} (iE : SE cl n) (iTs : STs cl n) (iI : SI cl n) : SM cl (n + 1) := fun c kx vx gs scope pos g it ts ek ev own0 h => by
  unfold chkM at h
  split at h
  · rename_i e1 e2
    cases e1
    cases e2
    simp only [Bool.and_eq_true, decide_eq_true_eq, List.all_eq_true] at h
    obtain ⟨⟨⟨⟨⟨⟨⟨⟨h1, h2⟩, h3⟩, h4⟩, h5⟩, h6⟩, h7⟩, h8⟩, h9⟩ := h
    subst h1
    refine ⟨_, _, _, ownOf c scope, rfl, rfl, h2, h4, fun i hi => by simpa using h9 i hi, fun X k Φ Wx C => ⟨iI _ _ _ _ h3 X g k Φ Wx (chkG_tup h5) C, fun s H A cs fp => ?_⟩⟩
    have C' := C.blk (blk_kind h2) s H A cs fp
    exact ⟨((sndG cl n).1 _ _ _ h5).2.2 _ k Φ noX C', iTs _ _ _ h6 _ k Φ noX C', iE _ _ _ h7 _ k Φ noX C', iE _ _ _ h8 _ k Φ noX C'⟩
  · cases h
theorem compOf2 {n : Nat} (iE : SE cl n) (iTs : STs cl n) (iI : SI cl n) (iJ : SJ cl n) : SC2 cl (n + 1) := fun c elt gs scope pos g it ts g2 it2 ts2 el own0 own2 h => by
  unfold chkL at h
  split at h
  · rename_i e1 e2
    cases e2
  · rename_i e1 e2
    cases e1
    cases e2
    simp only [Bool.and_eq_true, decide_eq_true_eq, List.all_eq_true] at h
    obtain ⟨⟨⟨⟨⟨⟨⟨⟨⟨⟨⟨⟨⟨h1, h2⟩, h3⟩, h4⟩, h5⟩, h6⟩, h7⟩, h8⟩, h9⟩, h10⟩, h11⟩, h12⟩, h13⟩, h14⟩ := h
    subst h1
    refine ⟨_, _, _, _, _, _, ownOf c scope, rfl, rfl, h2, h4, h8, fun i hi => by simpa using h12 i hi, fun i hi => by simpa using h13 i hi, fun i hi => by simpa using h14 i hi, fun X k Φ Wx C => ⟨iI _ _ _ _ h3 X g k Φ Wx (chkG_tup h5) C, fun s H A cs fp => ?_⟩⟩
    have C' := C.blk (blk_kind h2) s H A cs fp
    exact ⟨((sndG cl n).1 _ _ _ h5).2.2 _ k Φ noX C', iTs _ _ _ h6 _ k Φ noX C', iJ _ _ _ h7 _ _ g2 k Φ noX C', ((sndG cl n).1 _ _ _ h9).2.2 _ k Φ noX C', iTs _ _ _ h10 _ k Φ noX C', iE _ _ _ h11 _ k Φ noX C'⟩
  · rename_i e1 e2
    cases e1
  · rename_i e1 e2
    cases e2
  · cases h
set_option maxRecDepth 200000 in
theorem sndE : ∀ n, SE cl n ∧ SB cl n ∧ SEs cl n ∧ SP' cl n ∧ ST cl n ∧ SW cl n ∧ SL cl n ∧ SC cl n ∧ STs cl n ∧ SI cl n ∧ SC2 cl n ∧ SJ cl n ∧ SM cl n ∧ SD cl n ∧ SX cl n
  | 0 => by
    refine ⟨fun _ _ _ h => ?_, fun _ _ _ _ h => ?_, fun _ _ _ h => ?_, fun _ _ _ h => ?_, fun _ _ _ h => ?_, fun _ _ _ _ h => ?_, fun _ _ _ h => ?_, fun _ _ _ _ _ _ _ _ _ _ h => ?_, fun _ _ _ h => ?_, fun _ _ _ _ h => ?_, fun _ _ _ _ _ _ _ _ _ _ _ _ _ _ h => ?_, fun _ _ _ h => ?_, fun _ _ _ _ _ _ _ _ _ _ _ _ h => ?_, fun _ _ _ _ h => ?_, fun _ _ _ h => ?_⟩ <;> exact absurd h Bool.false_ne_true
  | n + 1 => by
    obtain ⟨iE, iB, iEs, iP, iT, iW, iL, iC, iTs, iI, iC2, iJ, iM, iD, iX⟩ := sndE n
    refine ⟨fun c e ie h X k Φ Wx C => ?_, fun c op es ie h X k Φ Wx pos C => ?_, fun c es ies h => ?_, fun c e ie h X k Φ Wx C => ?_, fun c e it h X k Φ Wx C => ?_, fun c op es it h X k Φ Wx pos C => ?_, fun c e il h X k Φ Wx C => ?_, fun c elt gs scope pos g it ts el own0 h => compOf cl iE iTs iI c elt gs scope pos g it ts el own0 h, fun c es its h X k Φ Wx C => ?_, fun c tg e ii h X ig k Φ Wx hig C => ?_, fun c elt gs scope pos g it ts g2 it2 ts2 el own0 own2 h => compOf2 cl iE iTs iI iJ c elt gs scope pos g it ts g2 it2 ts2 el own0 own2 h, fun c e ii h X tg ig k Φ Wx C => ?_, fun c kx vx gs scope pos g it ts ek ev own0 h => dcmOf cl iE iTs iI c kx vx gs scope pos g it ts ek ev own0 h, fun c ks vs es h X k Φ Wx pos C => ?_, fun c e ie h X k Φ Wx C => ?_⟩
    · -- expressions
      unfold chkE at h
      split at h
      · simp only [Bool.and_eq_true, decide_eq_true_eq] at h
        obtain ⟨⟨h1, h2⟩, h3⟩ := h
        obtain ⟨o1, o2, _⟩ := okN_of h3
        rw [e_var]
        exact s_var (C.N ▸ h1) (C.vis h2) o1 o2
      · simp only [decide_eq_true_eq] at h
        subst h
        rw [e_cst]; exact s_int
      · simp only [decide_eq_true_eq] at h
        subst h
        rw [e_cst]; exact s_bl
      · simp only [decide_eq_true_eq] at h
        subst h
        rw [e_cst]; exact s_str
      · rw [e_cst]; exact s_non
      · simp only [Bool.and_eq_true] at h
        obtain ⟨r, ho, hs⟩ := opOf cl h.1.1 X
        rw [e_bin]
        exact s_bin ho hs (iE _ _ _ h.1.2 X k Φ Wx C) (iE _ _ _ h.2 X k Φ Wx C)
      · rw [e_neg]; exact s_neg (iE _ _ _ h X k Φ Wx C)
      · rw [e_not, et_val]; exact s_notV (iE _ _ _ h X k Φ Wx C)
      · exact iB _ _ _ _ h X k Φ Wx _ C
      · simp only [Bool.and_eq_true] at h
        rw [e_ite]
        exact s_ite (iT _ _ _ h.1.1 X k Φ Wx C) (iE _ _ _ h.1.2 X k Φ Wx C) (iE _ _ _ h.2 X k Φ Wx C)
      · rw [e_cmp, e_cst]; exact s_isN (c := .Constant .none 0 ⟨0, 0, 0, 0⟩) (iE _ _ _ h X k Φ Wx C)
      · rw [e_cmp, e_cst]; exact s_notN (c := .Constant .none 0 ⟨0, 0, 0, 0⟩) (iE _ _ _ h X k Φ Wx C)
      · simp only [Bool.and_eq_true] at h
        rename_i b _ _ _ _ _ _
        obtain ⟨⟨r, ho, hs⟩, hm⟩ := cmOf cl h.1.1.1 X (by have := C.room.un; omega) b h.1.1.2
        rw [e_cmp]
        exact s_cmp ho hs (iE _ _ _ h.1.2 X k Φ Wx C) (iE _ _ _ h.2 X k Φ Wx C) hm
      · rw [e_tup]; exact s_tup ((iEs _ _ _ h).2 X k Φ Wx C)
      · rw [e_lst]; exact s_lst ((iEs _ _ _ h).2 X k Φ Wx C)
      · obtain ⟨tg, iter, ifs, own, rfl, rfl, hb, hns, hsl, hp⟩ := iC _ _ _ _ _ _ _ _ _ _ h
        obtain ⟨p1, p2⟩ := hp X k Φ Wx C
        rw [e_mk, el_comp]
        exact s_mkLc C.calm (C.N ▸ C.nd) p1 (by rw [C.N, C.sc]; exact blkOk_by hb) (fun s H A cs fp => (p2 s H A cs fp).1) (fun s H A cs fp => (p2 s H A cs fp).2.1) (fun s H A cs fp => (p2 s H A cs fp).2.2) (folded hns _) hsl
      · simp only [Bool.and_eq_true] at h
        rw [e_slc]
        exact s_slc (iE _ _ _ h.1.1 X k Φ Wx C) (iP _ _ _ h.1.2 X k Φ Wx C) (iP _ _ _ h.2 X k Φ Wx C)
      · simp only [Bool.and_eq_true] at h
        rw [e_idx]
        exact s_idx (iE _ _ _ h.1.1 X k Φ Wx C) (iE _ _ _ h.1.2 X k Φ Wx C) (plainIx h.2)
      · simp only [Bool.and_eq_true, decide_eq_true_eq, Bool.not_eq_true'] at h
        obtain ⟨⟨⟨⟨h1, h2⟩, h3⟩, h4⟩, h5⟩ := h
        obtain ⟨hs, ha⟩ := iEs _ _ _ h5
        rename_i f p args pos i es
        cases args with
        | nil => cases h4
        | cons a as =>
          obtain ⟨o1, _, _⟩ := okN_of h3
          have q := hs X.env
          have ns : notStar a = true := by
            cases a <;> first | rfl | (simp [starEach] at q; done)
          have q1 := star1 ns as X.env
          have q2 : starEach as X.env = as.map fun e => (false, eval e X.env) := by
            rw [q1] at q
            simpa using q
          rw [e_call]
          exact s_call (C.fns i f _ h1) C.room (C.gl h2) C.tk (ha X k Φ Wx C) o1 q1 (any_false q2)
      · simp only [Bool.and_eq_true, beq_iff_eq] at h
        obtain ⟨⟨⟨⟨h1, h2⟩, h3⟩, h4⟩, h5⟩ := h
        obtain ⟨g1, g2, g3, g4⟩ := C.bl h2
        obtain ⟨t1, t2, t3, t4⟩ := C.bl h4
        rename_i f p a t p2 pos ty a'
        have ns := eNotStar h5
        rw [e_bi, es_cons, es_nil]
        refine s_isi g2 h1 g1 t2 t1 ?_ t4 t3 (iE _ _ _ h5 X k Φ Wx C) (by rw [star1 ns]; rfl)
        cases ty <;> (simp only [tyB, beq_iff_eq] at h3; subst h3; decide +kernel)
      · simp only [Bool.and_eq_true, Bool.or_eq_true] at h
        obtain ⟨h1, h2⟩ := h
        obtain ⟨hs, ha⟩ := iEs _ _ _ h2
        rw [e_bi]
        rcases h1 with ⟨h1, h3⟩ | ⟨⟨⟨h1, h3⟩, h4⟩, h5⟩
        · exact biOf cl C h1 h3 hs (ha X k Φ Wx C)
        · exact mthOf cl C h1 h3 h4 h5 hs (ha X k Φ Wx C)
      · simp only [Bool.and_eq_true, beq_iff_eq] at h
        obtain ⟨⟨⟨⟨rfl, h2⟩, rfl⟩, h4⟩, h5⟩ := h
        obtain ⟨g1, g2, _, _⟩ := C.bl h2
        obtain ⟨t1, t2, _, _⟩ := C.bl h4
        rw [e_lr1]
        exact s_lr1 C.calm g2 g1 t2 t1 (iE _ _ _ h5 X k Φ Wx C) (star1 (eNotStar h5) [] _)
      · simp only [Bool.and_eq_true, beq_iff_eq] at h
        obtain ⟨⟨⟨⟨⟨rfl, h2⟩, rfl⟩, h4⟩, h5⟩, h6⟩ := h
        obtain ⟨g1, g2, _, _⟩ := C.bl h2
        obtain ⟨t1, t2, _, _⟩ := C.bl h4
        rw [e_lr2]
        exact s_lr2 C.calm g2 g1 t2 t1 (iE _ _ _ h5 X k Φ Wx C) (iE _ _ _ h6 X k Φ Wx C) (by rw [star1 (eNotStar h5), star1 (eNotStar h6)]; rfl) (star1 (eNotStar h6) [] _)
      · simp only [Bool.and_eq_true, beq_iff_eq] at h
        obtain ⟨⟨⟨rfl, h2⟩, h3⟩, h4⟩ := h
        rw [e_mt, es_nil]
        exact s_mt0 PySem.F.plainAttrs_list PySem.F.slot_list_reverse PySem.F.type_list_reverse mt_reverse reverseS (iE _ _ _ h4 X k Φ Wx C) (attrBase h3 _ _) (by simpa using h2)
      · simp only [Bool.and_eq_true, beq_iff_eq] at h
        obtain ⟨⟨⟨rfl, h2⟩, h3⟩, h4⟩ := h
        rw [e_mt, es_nil]
        exact s_mt0 PySem.F.plainAttrs_list PySem.F.slot_list_pop PySem.F.type_list_pop mt_pop popS (iE _ _ _ h4 X k Φ Wx C) (attrBase h3 _ _) (by simpa using h2)
      · simp only [Bool.and_eq_true, beq_iff_eq, decide_eq_true_eq] at h
        obtain ⟨⟨⟨⟨h1, h2⟩, h3⟩, h4⟩, h5⟩ := h
        subst h3
        subst h4
        obtain ⟨g1, g2, _, _⟩ := C.bl h2
        rw [e_maxD]
        refine s_maxD C.calm h1 g2 g1 (iL _ _ _ h5 X k Φ Wx C) (star1 ?_ [] _)
        cases n with
        | zero => exact absurd h5 Bool.false_ne_true
        | succ n => exact lNotStar (fun _ _ _ => eNotStar) h5
      · simp only [Bool.and_eq_true, beq_iff_eq] at h
        obtain ⟨⟨h1, h2⟩, h3⟩ := h
        obtain ⟨g1, g2, _, _⟩ := C.bl h2
        rw [e_srt]
        refine s_srt h1 g2 g1 (iL _ _ _ h3 X k Φ Wx C) (star1 ?_ [] _)
        cases n with
        | zero => exact absurd h3 Bool.false_ne_true
        | succ n => exact lNotStar (fun _ _ _ => eNotStar) h3
      · simp only [Bool.and_eq_true, beq_iff_eq] at h
        obtain ⟨⟨h1, h2⟩, h3⟩ := h
        obtain ⟨g1, g2, _, _⟩ := C.bl h2
        rw [e_aa]
        refine s_aa C.calm h1 g2 g1 (iL _ _ _ h3 X k Φ Wx C) (star1 ?_ [] _)
        cases n with
        | zero => exact absurd h3 Bool.false_ne_true
        | succ n => exact lNotStar (fun _ _ _ => eNotStar) h3
      · simp only [Bool.and_eq_true, beq_iff_eq] at h
        obtain ⟨⟨⟨⟨⟨rfl, h2⟩, rfl⟩, h4⟩, h5⟩, h6⟩ := h
        obtain ⟨g1, g2, _, _⟩ := C.bl h2
        obtain ⟨t1, t2, _, _⟩ := C.bl h4
        rw [e_tr2]
        exact s_tr2 C.calm g2 g1 t2 t1 (iE _ _ _ h5 X k Φ Wx C) (iE _ _ _ h6 X k Φ Wx C) (by rw [star1 (eNotStar h5), star1 (eNotStar h6)]; rfl) (star1 (eNotStar h6) [] _)
      · simp only [Bool.and_eq_true] at h
        obtain ⟨⟨h1, h2⟩, h3⟩ := h
        rw [e_bl]
        refine blOf cl C h1 h2 ?_ (iL _ _ _ h3 X k Φ Wx C)
        cases n with
        | zero => exact absurd h3 Bool.false_ne_true
        | succ n => exact lNotStar (fun _ _ _ => eNotStar) h3
      · simp only [Bool.and_eq_true, List.any_eq_true, beq_iff_eq] at h
        obtain ⟨⟨⟨p, hp, rfl, h2⟩, h3⟩, h4⟩ := h
        obtain ⟨v, hv, cv⟩ := C.cns p hp
        rw [W.eqb_eq h2] at cv
        rw [e_glc]
        exact s_glc (C.gl h3) hv cv (okN_of h4).1
      · simp only [Bool.and_eq_true, beq_iff_eq] at h
        obtain ⟨⟨rfl, h2⟩, h3⟩ := h
        obtain ⟨g1, g2, _, _⟩ := C.bl h2
        rw [e_rgN]
        exact s_rgN g2 g1 (iE _ _ _ h3 X k Φ Wx C) (star1 (eNotStar h3) [] _)
      · simp only [Bool.and_eq_true, beq_iff_eq] at h
        obtain ⟨⟨⟨⟨rfl, h2⟩, rfl⟩, h4⟩, h5⟩ := h
        obtain ⟨g1, g2, _, _⟩ := C.bl h2
        obtain ⟨t1, t2, _, _⟩ := C.bl h4
        rw [e_srtD]
        refine s_srtD C.calm g2 g1 t2 t1 (iL _ _ _ h5 X k Φ Wx C) (star1 ?_ [] _)
        cases n with
        | zero => exact absurd h5 Bool.false_ne_true
        | succ n => exact lNotStar (fun _ _ _ => eNotStar) h5
      · obtain ⟨tg, iter, ifs, tg1, iter1, ifs1, own, rfl, rfl, hb, hns, hns1, hsl, hsl1, hv, hp⟩ := iC2 _ _ _ _ _ _ _ _ _ _ _ _ _ _ h
        obtain ⟨p1, p2⟩ := hp X k Φ Wx C
        rw [e_mk, el_comp2]
        exact s_mkLc2 C.calm (C.N ▸ C.nd) p1 (by rw [C.N, C.sc]; exact blkOk_by hb) hv p2 (folded hns _) (fun env x => folded hns1 env x) hsl hsl1
      · simp only [Bool.and_eq_true, decide_eq_true_eq] at h
        obtain ⟨⟨⟨⟨⟨h1, h2⟩, h3⟩, h4⟩, h5⟩, h6⟩ := h
        obtain ⟨hs, ha⟩ := iEs _ _ _ h6
        rw [e_mt]
        exact mtOf cl C h1 h2 h3 h4 hs (iE _ _ _ h5 X k Φ Wx C) (ha X k Φ Wx C)
      · rw [e_dnew]; exact s_dnew
      · simp only [Bool.and_eq_true] at h
        rw [e_dget]
        exact s_dget (by have := C.room.un; omega) (iE _ _ _ h.1.1 X k Φ Wx C) (iE _ _ _ h.1.2 X k Φ Wx C) (plainIx h.2)
      · simp only [Bool.and_eq_true] at h
        obtain ⟨⟨h1, h2⟩, h3⟩ := h
        rw [e_din]
        exact s_din (by have := C.room.un; omega) (iE _ _ _ h2 X k Φ Wx C) (iE _ _ _ h3 X k Φ Wx C) (noMark h1 _)
      · simp only [Bool.and_eq_true] at h
        obtain ⟨⟨h1, h2⟩, h3⟩ := h
        rw [e_din]
        exact s_dnin (by have := C.room.un; omega) (iE _ _ _ h2 X k Φ Wx C) (iE _ _ _ h3 X k Φ Wx C) (noMark h1 _)
      · exact iX _ _ _ h X k Φ Wx C
    · -- and, or, as values
      unfold chkB at h
      split at h
      · exact s_one (iE _ _ _ h X k Φ Wx C)
      · simp only [Bool.and_eq_true] at h
        rw [e_and]
        exact s_and (iE _ _ _ h.1 X k Φ Wx C) (iB _ _ _ _ h.2 X k Φ Wx _ C)
      · simp only [Bool.and_eq_true] at h
        rw [e_or]
        exact s_or (iE _ _ _ h.1 X k Φ Wx C) (iB _ _ _ _ h.2 X k Φ Wx _ C)
      · cases h
    · -- arguments
      unfold chkEs at h
      split at h
      · exact ⟨fun _ => rfl, fun X k Φ Wx C => by rw [es_nil]; exact s_anil⟩
      · simp only [Bool.and_eq_true] at h
        obtain ⟨⟨h1, h2⟩, h3⟩ := h
        obtain ⟨hs, ha⟩ := iEs _ _ _ h3
        refine ⟨fun env => by rw [star1 h1, hs]; rfl, fun X k Φ Wx C => ?_⟩
        rw [es_cons]
        exact s_acons (iE _ _ _ h2 X k Φ Wx C) (ha X k Φ Wx C) (star1 h1 _ _)
      · cases h
    · unfold chkP at h
      split at h
      · rw [ep_no]; exact s_pno
      · rw [ep_at]; exact s_pat (iE _ _ _ h X k Φ Wx C)
      · cases h
    · -- tests
      unfold chkT at h
      split at h
      · rw [et_not]; exact s_tnot (iT _ _ _ h X k Φ Wx C)
      · exact (iW _ _ _ _ h X k Φ Wx _ C).pt
      · rename_i a _ _ _ _ a'
        rw [et_val, e_cmp, e_cst]
        exact conseqT (pt_cmp (pc_isN (iE _ _ _ h X k Φ Wx C))) fun σ H Q z => tTestOf (t := tIsN (tE (gx X cl) Wx (evE Φ a'))) (fun σ H Q z => tR.bind z fun m ρ wa x h H1 rs rh ra z1 => isNS rh ra z1) (fun ρ h w h' e => cmp1_bl e) z
      · rename_i a _ _ _ _ a'
        rw [et_val, e_cmp, e_cst]
        exact conseqT (pt_cmp (pc_notN (iE _ _ _ h X k Φ Wx C))) fun σ H Q z => tTestOf (t := tNotN (tE (gx X cl) Wx (evE Φ a'))) (fun σ H Q z => tR.bind z fun m ρ wa x h H1 rs rh ra z1 => notNS rh ra z1) (fun ρ h w h' e => cmp1_bl e) z
      · simp only [Bool.and_eq_true] at h
        rename_i b _ _ _ _ _ _
        obtain ⟨⟨r, ho, hs⟩, hm⟩ := cmOf cl h.1.1.1 X (by have := C.room.un; omega) b h.1.1.2
        rw [et_val, e_cmp]
        exact conseqT (pt_cmpR ho (iE _ _ _ h.1.2 X k Φ Wx C) (iE _ _ _ h.2 X k Φ Wx C) hm) fun σ H Q z => tTestOf (fun σ H Q z => t2 hs z) (fun ρ h w h' e => cmp_bl e) z
      · simp only [Bool.and_eq_true] at h
        obtain ⟨⟨h1, h2⟩, h3⟩ := h
        rw [et_val, e_din]
        exact s_tdin cl (by have := C.room.un; omega) (iE _ _ _ h2 X k Φ Wx C) (iE _ _ _ h3 X k Φ Wx C) (noMark h1 _)
      · simp only [Bool.and_eq_true] at h
        obtain ⟨⟨h1, h2⟩, h3⟩ := h
        rw [et_val, e_din]
        exact s_tdnin cl (by have := C.room.un; omega) (iE _ _ _ h2 X k Φ Wx C) (iE _ _ _ h3 X k Φ Wx C) (noMark h1 _)
      · simp only [Bool.and_eq_true] at h
        obtain ⟨⟨⟨⟨h1, h2⟩, h3⟩, h4⟩, h5⟩ := h
        obtain ⟨r, ho, hs⟩ := cnOf cl h1 X (by have := C.room.un; omega)
        obtain ⟨r', ho', hs'⟩ := cnOf cl h2 X (by have := C.room.un; omega)
        rw [et_val, e_chn]
        exact conseqT (pt_chain ho ho' (iE _ _ _ h3 X k Φ Wx C) (iE _ _ _ h4 X k Φ Wx C) (iE _ _ _ h5 X k Φ Wx C) (cn_marks h1 h2 _ _)) fun σ H Q z => tTestOf (fun σ H Q z => s_chn ho hs ho' hs' (iE _ _ _ h3 X k Φ Wx C) (iE _ _ _ h4 X k Φ Wx C) (iE _ _ _ h5 X k Φ Wx C) (cn_marks h1 h2 _ _) (fun x y h w h' e => cn_bl h1 x y h w h' e) (fun x y h => cn_ok h1 x y h) σ H Q z) (fun ρ h w h' e => chn_bl h1 h2 e) z
      · simp only [Bool.and_eq_true] at h
        rw [et_val]
        exact s_tval (iE _ _ _ h.2 X k Φ Wx C) (plain_isTrue h.1 _)
      · cases h
    · unfold chkW at h
      split at h
      · cases op with
        | And => exact s_tand1 (iT _ _ _ h X k Φ Wx C)
        | Or => exact s_tor1 (iT _ _ _ h X k Φ Wx C)
      · simp only [Bool.and_eq_true] at h
        rw [et_and]
        exact s_tand (iT _ _ _ h.1 X k Φ Wx C) (iW _ _ _ _ h.2 X k Φ Wx _ C)
      · simp only [Bool.and_eq_true] at h
        rw [et_or]
        exact s_tor (iT _ _ _ h.1 X k Φ Wx C) (iW _ _ _ _ h.2 X k Φ Wx _ C)
      · cases h
    · -- items
      unfold chkL at h
      split at h
      · rename_i elt tg iter ifs scope pos g it ts el own
        obtain ⟨tg', iter', ifs', own', e1, e2, hb, hns, hsl, hp⟩ := compOf cl iE iTs iI c elt [⟨tg, iter, ifs, 0⟩] scope pos g it ts el own (by unfold chkL; exact h)
        cases e1
        subst e2
        obtain ⟨p1, p2⟩ := hp X k Φ Wx C
        rw [el_comp]
        exact s_lc C.calm (C.N ▸ C.nd) p1 (by rw [C.N, C.sc]; exact blkOk_by hb) (fun s H A cs fp => (p2 s H A cs fp).1) (fun s H A cs fp => (p2 s H A cs fp).2.1) (fun s H A cs fp => (p2 s H A cs fp).2.2) (folded hns _) hsl
      · rename_i elt tg iter ifs tg1 iter1 ifs1 scope pos g it ts g2 it2 ts2 el own own2
        obtain ⟨tg', iter', ifs', tg1', iter1', ifs1', own', e1, e2, hb, hns, hns1, hsl, hsl1, hv, hp⟩ := compOf2 cl iE iTs iI iJ c elt [⟨tg, iter, ifs, 0⟩, ⟨tg1, iter1, ifs1, 0⟩] scope pos g it ts g2 it2 ts2 el own own2 (by unfold chkL; exact h)
        cases e1
        subst e2
        obtain ⟨p1, p2⟩ := hp X k Φ Wx C
        rw [el_comp2]
        exact s_lc2 C.calm (C.N ▸ C.nd) p1 (by rw [C.N, C.sc]; exact blkOk_by hb) hv p2 (folded hns _) (fun env x => folded hns1 env x) hsl hsl1
      · rw [el_disp]; exact s_disp ((iEs _ _ _ h).2 X k Φ Wx C)
      · rw [el_of]; exact s_of (iE _ _ _ h X k Φ Wx C)
      · cases h
    · unfold chkTs at h
      split at h
      · rw [ets_nil]
        exact ⟨fun pins s σ H Q I z => pts_nil.run pins s σ H Q I (by obtain ⟨m, ρ, h, rs, rh, z⟩ := z; exact z.here rh rfl)⟩
      · rw [ets_cons, ets_nil]
        exact ⟨fun pins s σ H Q I z => (pts_one (iT _ _ _ h X k Φ Wx C)).run pins s σ H Q I (tR.bind z fun m ρ wa x h H1 rs rh ra z1 => by
          rw [show x = wa from ra]
          cases wa with
          | true => exact RV.here (R := Same) z1 rh rfl
          | false => exact RV.here (R := Same) z1 rh rfl)⟩
      · cases h
    · -- what is walked
      have lns : ∀ {c e il}, chkL n c e il = true → notStar e = true := fun {c e il} h => by
        cases n with
        | zero => exact absurd h Bool.false_ne_true
        | succ n => exact lNotStar (fun _ _ _ => eNotStar) h
      unfold chkI at h
      split at h
      · simp only [Bool.and_eq_true, beq_iff_eq] at h
        obtain ⟨⟨⟨rfl, h2⟩, h3⟩, h4⟩ := h
        obtain ⟨g1, g2, g3, g4⟩ := C.bl h2
        rw [ei_rng1]
        exact s_rng1 g2 g1 (iE _ _ _ h4 X k Φ Wx C) (star1 h3 [] _)
      · simp only [Bool.and_eq_true, beq_iff_eq] at h
        obtain ⟨⟨⟨⟨⟨rfl, h2⟩, h3⟩, h4⟩, h5⟩, h6⟩ := h
        obtain ⟨g1, g2, g3, g4⟩ := C.bl h2
        rw [ei_rng2]
        exact s_rng2 g2 g1 (iE _ _ _ h5 X k Φ Wx C) (iE _ _ _ h6 X k Φ Wx C) (by rw [star1 h3, star1 h4]; rfl) (star1 h4 [] _)
      · simp only [Bool.and_eq_true, beq_iff_eq] at h
        obtain ⟨⟨⟨⟨⟨⟨rfl, h2⟩, h3⟩, h4⟩, h5⟩, h6⟩, h7⟩ := h
        obtain ⟨g1, g2, g3, g4⟩ := C.bl h2
        rw [ei_zip]
        obtain ⟨ts, rfl⟩ := hig h5
        cases tg <;> first
          | (simp only [isTupE] at h5; cases h5; done)
          | exact s_zip4 g2 g1 (iL _ _ _ h6 X k Φ Wx C) (iL _ _ _ h7 X k Φ Wx C) (star1 h3 _ _) (star1 h4 [] _)
      · simp only [Bool.and_eq_true, beq_iff_eq] at h
        obtain ⟨⟨⟨⟨rfl, h2⟩, h3⟩, h4⟩, h5⟩ := h
        obtain ⟨g1, g2, g3, g4⟩ := C.bl h2
        rw [ei_enum]
        obtain ⟨ts, rfl⟩ := hig h4
        cases tg <;> first
          | (simp only [isTupE] at h4; cases h4; done)
          | exact s_enumA g2 g1 (iL _ _ _ h5 X k Φ Wx C) (star1 h3 [] _)
      · simp only [Bool.and_eq_true, beq_iff_eq] at h
        obtain ⟨⟨⟨⟨⟨rfl, h2⟩, h3⟩, h4⟩, h5⟩, h6⟩ := h
        obtain ⟨g1, g2, g3, g4⟩ := C.bl h2
        rw [ei_rng3]
        exact s_rng3 g2 g1 (iE _ _ _ h5 X k Φ Wx C) (iE _ _ _ h6 X k Φ Wx C) (star1 h3) (star1 h4)
      · simp only [Bool.and_eq_true, beq_iff_eq] at h
        obtain ⟨⟨⟨⟨⟨rfl, h2⟩, rfl⟩, h4⟩, h5⟩, h6⟩ := h
        obtain ⟨g1, g2, g3, g4⟩ := C.bl h2
        obtain ⟨t1, t2, t3, t4⟩ := C.bl h4
        rw [ei_rgR]
        exact s_rgR g2 g1 t2 t1 (iE _ _ _ h6 X k Φ Wx C) (star1 h5 [] _)
      · rw [ei_rgv]; exact s_rgv (iE _ _ _ h X k Φ Wx C)
      · rw [ei_dk]; exact s_dk (iE _ _ _ h X k Φ Wx C)
      · simp only [Bool.and_eq_true, beq_iff_eq] at h
        obtain ⟨⟨⟨⟨rfl, h2⟩, h3⟩, h4⟩, h5⟩ := h
        rw [ei_di]
        obtain ⟨ts, rfl⟩ := hig h4
        cases tg <;> first
          | (simp only [isTupE] at h4; cases h4; done)
          | exact s_di (iE _ _ _ h5 X k Φ Wx C) (attrBase h3 _ _) (by simpa using h2)
      · simp only [Bool.and_eq_true, beq_iff_eq] at h
        obtain ⟨⟨⟨rfl, h2⟩, h3⟩, h4⟩ := h
        obtain ⟨g1, g2, g3, g4⟩ := C.bl h2
        rw [ei_rv]
        exact s_rv g2 g1 (iL _ _ _ h4 X k Φ Wx C) (star1 h3 [] _)
      · rw [ei_of]; exact s_iL (iL _ _ _ h X k Φ Wx C)
      · cases h
    · -- what is walked within a turn
      unfold chkJ at h
      split at h
      · simp only [Bool.and_eq_true, beq_iff_eq] at h
        obtain ⟨⟨⟨rfl, h2⟩, h3⟩, h4⟩ := h
        obtain ⟨g1, g2, g3, g4⟩ := C.bl h2
        rw [ei_rng1]
        exact s_rng1' g2 g1 (iE _ _ _ h4 X k Φ Wx C) (star1 h3 [] _)
      · simp only [Bool.and_eq_true, beq_iff_eq] at h
        obtain ⟨⟨⟨⟨⟨rfl, h2⟩, h3⟩, h4⟩, h5⟩, h6⟩ := h
        obtain ⟨g1, g2, g3, g4⟩ := C.bl h2
        rw [ei_rng2]
        exact s_rng2' g2 g1 (iE _ _ _ h5 X k Φ Wx C) (iE _ _ _ h6 X k Φ Wx C) (by rw [star1 h3, star1 h4]; rfl) (star1 h4 [] _)
      · rw [ei_of, el_of]; exact s_iv' (iE _ _ _ h X k Φ Wx C)
      · cases h
    · -- displays
      unfold chkD at h
      split at h
      · rw [es_nil]; exact s_pps_nil
      · simp only [Bool.and_eq_true] at h
        obtain ⟨⟨h1, h2⟩, h3⟩ := h
        rw [es_cons, es_cons]
        exact s_pps_cons (iE _ _ _ h1 X k Φ Wx C) (iE _ _ _ h2 X k Φ Wx C) (iD _ _ _ _ h3 X k Φ Wx _ C)
      · cases h
    · -- dicts
      unfold chkX at h
      split at h
      · simp only [Bool.and_eq_true, beq_iff_eq] at h
        obtain ⟨⟨⟨⟨⟨⟨⟨rfl, h2⟩, h3⟩, h4⟩, h5⟩, h6⟩, h7⟩, h8⟩ := h
        rw [e_dgt]
        exact s_dgt (by have := C.room.un; omega) (iE _ _ _ h6 X k Φ Wx C) (iE _ _ _ h7 X k Φ Wx C) (iE _ _ _ h8 X k Φ Wx C) (m2_of (by simpa using h2) h3 h4 h5)
      · simp only [Bool.and_eq_true, beq_iff_eq] at h
        obtain ⟨⟨⟨⟨⟨⟨⟨rfl, h2⟩, h3⟩, h4⟩, h5⟩, h6⟩, h7⟩, h8⟩ := h
        rw [e_dst]
        exact s_dst (iE _ _ _ h6 X k Φ Wx C) (iE _ _ _ h7 X k Φ Wx C) (iE _ _ _ h8 X k Φ Wx C) (m2_of (by simpa using h2) h3 h4 h5)
      · simp only [Bool.and_eq_true, beq_iff_eq] at h
        obtain ⟨⟨⟨⟨⟨rfl, h2⟩, h3⟩, h4⟩, h5⟩, h6⟩ := h
        rw [e_tix]
        exact s_tix (iE _ _ _ h5 X k Φ Wx C) (iE _ _ _ h6 X k Φ Wx C) (m1_of (by simpa using h2) h3 h4)
      · simp only [Bool.and_eq_true, beq_iff_eq] at h
        obtain ⟨⟨rfl, h2⟩, h3⟩ := h
        obtain ⟨g1, g2, g3, g4⟩ := C.bl h2
        rw [e_dmk]
        refine s_blT (cr_dmk C.calm) (dmkS (G := gx X cl)) g2 g1 (by decide +kernel) (iL _ _ _ h3 X k Φ Wx C) g4 g3 (star1 ?_ [] _)
        cases n with
        | zero => exact absurd h3 Bool.false_ne_true
        | succ n => exact lNotStar (fun _ _ _ => eNotStar) h3
      · simp only [Bool.and_eq_true, beq_iff_eq] at h
        obtain ⟨⟨rfl, h2⟩, h3⟩ := h
        obtain ⟨g1, g2, _, _⟩ := C.bl h2
        rw [e_dcp]
        exact s_dcp rfl g2 g1 (iE _ _ _ h3 X k Φ Wx C) (star1 (eNotStar h3) [] _)
      · simp only [Bool.and_eq_true, beq_iff_eq] at h
        obtain ⟨⟨rfl, h2⟩, h3⟩ := h
        obtain ⟨g1, g2, _, _⟩ := C.bl h2
        rw [e_dsr]
        exact s_dsr C.calm rfl g2 g1 (iE _ _ _ h3 X k Φ Wx C) (star1 (eNotStar h3) [] _)
      · simp only [Bool.and_eq_true, beq_iff_eq] at h
        obtain ⟨⟨⟨⟨⟨rfl, h2⟩, rfl⟩, h4⟩, h5⟩, h6⟩ := h
        obtain ⟨g1, g2, _, _⟩ := C.bl h2
        rw [e_dvm]
        exact s_dvm C.calm g2 g1 (iE _ _ _ h6 X k Φ Wx C) (attrBase h5 _ _) (by simpa using h4) (star1 rfl [] _)
      · simp only [Bool.and_eq_true, beq_iff_eq] at h
        obtain ⟨⟨⟨⟨⟨rfl, h2⟩, rfl⟩, h4⟩, h5⟩, h6⟩ := h
        obtain ⟨g1, g2, _, _⟩ := C.bl h2
        obtain ⟨t1, t2, _, _⟩ := C.bl h4
        rw [e_trv]
        exact s_trvA C.calm g2 g1 t2 t1 (iL _ _ _ h6 X k Φ Wx C) (star1 h5 [] _) (star1 rfl [] _)
      · simp only [Bool.and_eq_true, decide_eq_true_eq] at h
        obtain ⟨⟨⟨h1, h2⟩, h3⟩, h4⟩ := h
        rw [e_ddl]
        exact s_ddl (iD _ _ _ _ h4 X k Φ Wx _ C) h1 h2 (by simp) h3
      · obtain ⟨tg, iter, ifs, own, rfl, rfl, hb, hns, hsl, hp⟩ := iM _ _ _ _ _ _ _ _ _ _ _ _ h
        obtain ⟨p1, p2⟩ := hp X k Φ Wx C
        rw [e_dcm]
        exact s_dcm C.calm (C.N ▸ C.nd) p1 (by rw [C.N, C.sc]; exact blkOk_by hb) p2 (folded hns _) hsl
      · simp only [Bool.and_eq_true] at h
        obtain ⟨⟨⟨⟨h1, h2⟩, h3⟩, h4⟩, h5⟩ := h
        obtain ⟨r, ho, hs⟩ := cnOf cl h1 X (by have := C.room.un; omega)
        obtain ⟨r', ho', hs'⟩ := cnOf cl h2 X (by have := C.room.un; omega)
        rw [e_chn]
        exact conseq (pe_chain ho ho' (iE _ _ _ h3 X k Φ Wx C) (iE _ _ _ h4 X k Φ Wx C) (iE _ _ _ h5 X k Φ Wx C) (cn_marks h1 h2 _ _)) fun σ H Q z => s_chn ho hs ho' hs' (iE _ _ _ h3 X k Φ Wx C) (iE _ _ _ h4 X k Φ Wx C) (iE _ _ _ h5 X k Φ Wx C) (cn_marks h1 h2 _ _) (fun x y h w h' e => cn_bl h1 x y h w h' e) (fun x y h => cn_ok h1 x y h) σ H Q z
      · simp only [Bool.and_eq_true] at h
        rw [e_lck]
        exact s_lck (iE _ _ _ h.2 X k Φ Wx C)
      · cases h
end
end Ev

set_option Elab.async false
set_option linter.all false
set_option maxRecDepth 100000
set_option maxHeartbeats 4000000
/-! EvV: a suite that names its exception; a def that tells of which classes it is. -/
namespace Ev
open PySem PySem.Spec PyProof.Rows L2 L2H

section
variable {X : Cx}
theorem call_isP {a D : Addr} {oe : Obj} (C : ExcC X.K D) (hz : Zc (.ref D) none oe) (hf : ∃ vs, oe.data = .fields vs) (hp : (a, oe) ∈ X.pn) : CallR X (.builtin "isinstance") (rIsE X.K D a) := by
  intro pins s σ H xs us Q I r hh
  obtain ⟨c, cv, b, rfl, hcv, e, q⟩ := hh
  obtain ⟨u1, u2, rfl, r1, r2⟩ := vals2 r
  cases (show u1 = Value.ref a from r1)
  cases hcv _ r2
  obtain ⟨hg, _⟩ := I.pin (a, oe) (List.mem_append_left _ hp)
  obtain ⟨vs, hv⟩ := hf
  have J : PySem.W.InstAt s.heap a oe D none := by
    obtain ⟨oc, od, odt, osl⟩ := oe
    obtain ⟨z1, z2⟩ := hz
    dsimp only at z1 z2 hv
    subst z1; subst z2; subst hv
    exact ⟨hg, rfl, rfl, trivial⟩
  exact PySem.W.kia_one (PySem.W.handS_kitx_exc C.hg C.hk C.hs C.hd C.ha C.hn C.ht C.hm) I.kIn J e (fun z => nomatch z) fun tk => ⟨.bl b, H, I.tok tk, rfl, q⟩

def eqTr (v : Value) : Bool := match v with | .bool b => b == true | _ => false
theorem blsV_of : ∀ {bs : List Bool} {us : List Value}, Vals (bs.map V.bl) us → us = bs.map Value.bool
  | [], _, .nil => rfl
  | b :: bs, _, .cons r t => by
    cases (show _ = Value.bool b from r)
    rw [blsV_of t]; rfl
theorem cnt_bls : ∀ bs : List Bool, (bs.map Value.bool).countP eqTr = bs.count true
  | [] => rfl
  | b :: bs => by
    rw [List.map_cons, List.countP_cons, List.count_cons, cnt_bls bs]
    rfl
def rCntB (K : PySem.W.Frag) : V → List V → Hp → VK → Prop := fun x xs H Q => ∃ (p : Addr) (bs : List Bool), x = .ref p ∧ xs = [.bl true] ∧ SqL K H p (bs.map V.bl) ∧ Q (.int (bs.count true : Nat)) H
theorem mt_bcount : MtR X "list.count" (rCntB X.K) := by
  intro pins s σ H x xs v us Q I rx rxs hh
  obtain ⟨p, bs, rfl, rfl, hs, q⟩ := hh
  cases rx
  obtain ⟨u, rfl, ru⟩ := rxs.one
  cases (show u = Value.bool true from ru)
  obtain ⟨its, rv, ⟨⟨cls, dd, data, sl⟩, n, ho, hc, hdn, hd⟩, hlen⟩ := I.list hs
  simp only at hc hd
  subst hc; subst hd
  have hi := blsV_of rv
  refine call_meets PySem.F.slot_list_count ⟨_, ho, rfl⟩ PySem.F.entry_list_count (PySem.F.args_list_count_2 _ _) (SeqAt.list_countAt p its.toArray n dd sl (.bool true) eqTr) ⟨ho, fun y hy => ?_, ?_⟩
  · have hy : y ∈ its := by simpa using hy
    rw [hi] at hy
    obtain ⟨b, _, rfl⟩ := List.mem_map.mp hy
    exact SeqAt.EqAt.bool_bool b true
  · have ec : its.toArray.toList.countP eqTr = bs.count true := by
      show its.countP eqTr = _
      rw [hi]; exact cnt_bls bs
    refine ⟨.int (bs.count true : Nat), H, I.tok _, ⟨s.toks, ?_⟩, q⟩
    show Value.int ((its.toArray.toList.countP eqTr : Nat) : Int) s.toks = Value.int ((bs.count true : Nat) : Int) s.toks
    rw [ec]
end

/-- the exception stands at a -/
def Hot (X : Cx) (cl : List Value) (i : Nat) (a : Addr) : Prop := ∃ (oe : Obj) (D : Addr), (a, oe) ∈ X.pn ∧ cl[i]? = some (.ref D) ∧ Zc (.ref D) none oe ∧ ∃ vs, oe.data = .fields vs
/-- a truth about it -/
def tHv (x : Nat) (a : Addr) (b : Bool) : TE := fun σ H Q => σ[x]? = some (some (.ref a)) ∧ ∀ H', Laid H H' → Q (.bl b) H'
section
variable {X : Cx} {cl : List Value} {i x : Nat} {ad : Addr} {e y f : Str} {b : Bool} {p p1 p2 pos : Pos}
theorem s_isx (hot : Hot X cl i ad) (hN : X.N[x]? = some e) (hv : Vis X.env.scope e) (hd : (e == ("__debug__" : Str)) = false) (hcd : (e == ("__classdict__" : Str)) = false)
    (hg : Gl X f) (hf : f = "isinstance") (hm : X.mg f = none) (hy : Gl X y) (hd2 : (y == ("__debug__" : Str)) = false) (F : IsF X.K X.mg cl (i, y, b)) :
    PE X (.Call (.Name f p) [.Name e p1, .Name y p2] [] pos) (tHv x ad b) := by
  subst hf
  obtain ⟨D, v, cv, h1, C, n, k⟩ := F
  obtain ⟨oe, D', hp, h2, hz, hfs⟩ := hot
  have h1 : cl[i]? = some (.ref D) := h1
  rw [h1] at h2
  cases h2
  have pn : PE X (.Name y p2) (tC v) := by
    cases n with
    | own hm' => exact pe_glob hy hm' rfl hd2
    | blt hm' hv' hn => exact pe_bltn hy hm' hv' rfl hn hd2
  refine conseq (pe_callB (call_isP C hz hfs hp) hg hm (by decide +kernel) (pa_cons (pe_var hN hv hd hcd) (pa_cons pn pa_nil))) fun σ H Q z => ?_
  exact ⟨.ref ad, z.1, v, cv, b, rfl, n.one, k, z.2 H .refl⟩
theorem s_hand {a z : Expr} {r : List Expr} {q1 q2 : Bool} (ha : PE X a (tHv x ad q1)) (hb : PE X (.BoolOp .And (z :: r) pos) (tHv x ad q2)) : PE X (.BoolOp .And (a :: z :: r) pos) (tHv x ad (q1 && q2)) :=
  conseq (pe_and ha hb) fun σ H Q h => ⟨h.1, fun H1 l1 => ⟨q1, rfl, by
    cases q1
    · exact h.2 H1 l1
    · exact ⟨h.1, fun H2 l2 => h.2 H2 (l1.trans l2)⟩⟩⟩
theorem s_hnot {a : Expr} {q : Bool} (ha : PE X a (tHv x ad q)) : PE X (.UnaryOp .Not a pos) (tHv x ad (!q)) :=
  conseq (pe_not ha) fun σ H Q h => ⟨h.1, fun H1 l1 => ⟨q, rfl, h.2 H1 l1⟩⟩
theorem run_sg {pins : List (Addr × Obj)} {σ : L2.St} {H : Hp} {s : Shared} {Q : VK} (hot : Hot X cl i ad) (hr : RoomH 0 X.A) (I : Inv X pins σ H s) {fa : Addr} {fd : FuncData} {q1 : Str} (hb : Binds X.K fd [q1] [])
    (F : ∀ (A : Around) (outer : List Env) (s : Shared) (H : Hp) (args : Args) (a : Addr) (oe : Obj) (D : Addr) (Q : VK), RoomH 0 A → PinOk outer H s (a, oe) → cl[i]? = some (.ref D) → Zc (.ref D) none oe → (∃ vs, oe.data = .fields vs) →
      Env0 X.prog X.w X.K X.mg X.base A outer s H → BindsTo s fd args ([q1].zip [Value.ref a]) → (∀ H', Laid H H' → Q (.bl b) H') → codeAny (model X.prog X.w) A (.call (.ref fa) args) (CR (L2.CX X.prog X.w) outer X.prog X.w H s Q (fun _ _ _ => False)) s)
    (h : ∀ H', Laid H H' → Q (.bl b) H') : wpAny (model X.prog X.w) X.A (call (.ref fa) [.ref ad]) (EP X pins σ Q) X.xe s := by
  obtain ⟨oe, D, hp, h2, hz, hfs⟩ := hot
  have bd := hb s [.ref ad] I.kIn rfl
  have pin := I.pin (ad, oe) (List.mem_append_left _ hp)
  have hpin : PinOk X.stack H s (ad, oe) := ⟨pin.1, pin.2.1, fun z => (List.mem_cons.mp (I.stkSub ad z)).elim pin.2.2.1 pin.2.2.2.1, pin.2.2.2.2⟩
  refine wpAny_call (codeAny_mono (F X.A X.stack s H ⟨[.ref ad], []⟩ ad oe D Q hr hpin h2 hz hfs I.env0 bd h) fun r s' hq => ?_)
  cases r with
  | error u =>
    obtain ⟨_, _, _, _, _, _, _, _, _, _, _, _, z⟩ := hq
    exact z.elim
  | ok fl =>
    cases fl with
    | ret u => exact I.after hq
    | _ => exact (show False from hq).elim
theorem s_sgx (hot : Hot X cl i ad) (hr : RoomH 0 X.A) (hN : X.N[x]? = some e) (hv : Vis X.env.scope e) (hd : (e == ("__debug__" : Str)) = false) (hcd : (e == ("__classdict__" : Str)) = false)
    (hg : Gl X f) (hd2 : (f == ("__debug__" : Str)) = false) (F : SgF X.prog X.w X.K X.mg X.base cl (f, i, b)) :
    PE X (.Call (.Name f p) [.Name e p1] [] pos) (tHv x ad b) := by
  obtain ⟨fa, fd, q1, hm, hk, hb, F⟩ := F
  have ha : PA X [.Name e p1] (tCons (tVar x) tNil) := pa_cons (pe_var hN hv hd hcd) pa_nil
  refine ⟨fun pins s σ H Q I h => wpAny_Call_Name_kw (ld_glob I hg hm ?_ hd2)⟩
  refine PySem.W.callWith_K (h₀ := X.base) I.ok.mod.kin hk (thn (ha.run pos pins s σ H (fun vs H1 => vs = [.ref ad] ∧ H1 = H) I ⟨.ref ad, h.1, rfl, rfl⟩) fun us s1 z => ?_) rfl rfl
  obtain ⟨vs, H1, I1, r, rfl, rfl⟩ := z
  refine ⟨I1.kIn, ?_⟩
  obtain ⟨u, rfl, ru⟩ := vals1 r
  cases (show u = Value.ref ad from ru)
  exact run_sg hot hr I1 hb F h.2
end
/-- what stands in such a suite -/
structure CtxA (X : Cx) (cl : List Value) (c : Cc) (i x : Nat) (a : Addr) (e : Str) : Prop where
  N : X.N = c.N
  nd : c.N.Nodup
  sc : X.env.scope = c.sc
  fn : X.fn = c.fn
  hot : Hot X cl i a
  blt : ∀ y : Str, c.blt.contains y = true → X.mg y = none
  ist : ∀ p ∈ c.ist, IsF X.K X.mg cl p
  sng : ∀ p ∈ c.sng, SgF X.prog X.w X.K X.mg X.base cl p
  room : c.sng ≠ [] → RoomH 0 X.A
  ex : c.N[x]? = some e
  lc : c.sc.names.lookup e = some .local
  eN : okN e = true
section
variable {X : Cx} {cl : List Value} {c : Cc} {i x : Nat} {a : Addr} {e : Str}
theorem CtxA.vis (C : CtxA X cl c i x a e) {y : Str} (h : visB c.sc y = true) : Vis X.env.scope y := by
  unfold visB at h
  unfold Vis
  rw [C.sc]
  split at h
  · rename_i e; exact .inl e
  · rename_i e; exact .inr (.inl e)
  · rename_i e; exact .inr (.inr e)
  · cases h
theorem CtxA.vise (C : CtxA X cl c i x a e) : Vis X.env.scope e := by
  unfold Vis; rw [C.sc]; exact .inl C.lc
theorem CtxA.gl (C : CtxA X cl c i x a e) {y : Str} (h : glB c.sc y = true) : Gl X y := by
  unfold glB at h
  split at h
  · rename_i e
    show X.env.scope.names.lookup y = _
    rw [C.sc]; exact e
  · cases h
theorem find_in {α : Type} {l : List α} {f : α → Bool} {p : α} (h : l.find? f = some p) : p ∈ l ∧ f p = true := ⟨List.mem_of_find?_eq_some h, List.find?_some h⟩
theorem hv_ns {n : Nat} {z : Expr} {b : Bool} (h : hvB n c i e z = some b) : notStar z = true := by
  cases n with
  | zero => simp [hvB] at h
  | succ n => cases z <;> first | rfl | (simp [hvB] at h; done)
theorem hv_ok : ∀ n, (∀ {c : Cc} {i : Nat} {e : Str} {z : Expr} {b : Bool}, hvB n c i e z = some b → ∀ {X : Cx} {x : Nat} {a : Addr}, CtxA X cl c i x a e → PE X z (tHv x a b)) ∧
    (∀ {c : Cc} {i : Nat} {e : Str} {zs : List Expr} {b : Bool}, hvBs n c i e zs = some b → ∀ {X : Cx} {x : Nat} {a : Addr} {pos : Pos}, CtxA X cl c i x a e → PE X (.BoolOp .And zs pos) (tHv x a b))
  | 0 => ⟨fun h => by simp [hvB] at h, fun h => by simp [hvBs] at h⟩
  | n + 1 => by
    obtain ⟨iE, iEs⟩ := hv_ok n
    refine ⟨fun {c i e z b} h X x a C => ?_, fun {c i e zs b} h X x a pos C => ?_⟩
    · obtain ⟨o1, o2, _⟩ := okN_of C.eN
      unfold hvB at h
      split at h
      · split at h
        · rename_i hh
          simp only [Bool.and_eq_true, beq_iff_eq] at hh
          obtain ⟨⟨⟨⟨rfl, rfl⟩, h3⟩, h4⟩, h5⟩ := hh
          obtain ⟨p, hp, hb⟩ := Option.map_eq_some_iff.mp h
          obtain ⟨hm, hq⟩ := find_in hp
          simp only [Bool.and_eq_true, beq_iff_eq] at hq
          have F := C.ist p hm
          obtain ⟨p1, p2, p3⟩ := p
          obtain ⟨rfl, rfl⟩ := hq
          subst hb
          unfold bltB at h3
          simp only [Bool.and_eq_true] at h3
          exact s_isx C.hot (C.N ▸ C.ex) C.vise o1 o2 (C.gl h3.1.2) rfl (C.blt _ h3.1.1) (C.gl h4) (okN_of h5).1 F
        · cases h
      · split at h
        · rename_i hh
          simp only [Bool.and_eq_true, beq_iff_eq] at hh
          obtain ⟨⟨rfl, h4⟩, h5⟩ := hh
          obtain ⟨p, hp, hb⟩ := Option.map_eq_some_iff.mp h
          obtain ⟨hm, hq⟩ := find_in hp
          simp only [Bool.and_eq_true, beq_iff_eq] at hq
          have F := C.sng p hm
          obtain ⟨p1, p2, p3⟩ := p
          obtain ⟨rfl, rfl⟩ := hq
          subst hb
          exact s_sgx C.hot (C.room fun z => by rw [z] at hm; cases hm) (C.N ▸ C.ex) C.vise o1 o2 (C.gl h4) (okN_of h5).1 F
        · cases h
      · obtain ⟨q, hq, rfl⟩ := Option.map_eq_some_iff.mp h
        exact s_hnot (iE hq C)
      · exact iEs h C
      · cases h
    · unfold hvBs at h
      split at h
      · exact pe_one (iE h C)
      · split at h
        · rename_i q1 q2 e1 e2
          cases h
          exact s_hand (iE e1 C) (iEs e2 C)
        · cases h
      · cases h

theorem locB_of {y : Str} (h : locB c y = true) : c.sc.names.lookup y = some .local := by
  unfold locB at h
  split at h
  · assumption
  · cases h
/-! ### expressions of the suite -/
def noW : WX := fun _ _ _ _ => True
abbrev tEX (X : Cx) (cl : List Value) (x : Nat) (a : Addr) (ee : En → Hw → Res W) : TE := fun σ H Q => σ[x]? = some (some (.ref a)) ∧ tE (gx X cl) noW ee σ H Q
abbrev tEsX (X : Cx) (cl : List Value) (x : Nat) (a : Addr) (ees : En → Hw → Res (List W)) : TA := fun σ H Q => σ[x]? = some (some (.ref a)) ∧ tEs (gx X cl) noW ees σ H Q
theorem tR.mono {G : GX} {Wx : WX} {σ : L2.St} {H : Hp} {α β : Type} {R : Hp → List Addr → α → β → Prop} {f : En → Hw → Res α} {Q Q' : β → Hp → Prop} (z : tR G Wx R f σ H Q) (k : ∀ b H', Q b H' → Q' b H') : tR G Wx R f σ H Q' := by
  obtain ⟨m, ρ, h, rs, rh, z⟩ := z
  exact ⟨m, ρ, h, rs, rh, z.mono k⟩
theorem sndX : ∀ n, (∀ {c : Cc} {i : Nat} {e : Str} {z : Expr} {z' : IE}, chkXE n c i e z z' = true → ∀ {X : Cx} {x : Nat} {a : Addr} (Φ : Fn), CtxA X cl c i x a e → PE X z (tEX X cl x a (evE Φ z'))) ∧
    (∀ {c : Cc} {i : Nat} {e : Str} {zs : List Expr} {zs' : IEs}, chkXEs n c i e zs zs' = true → (∀ env, starEach zs env = zs.map fun e => (false, eval e env)) ∧ ∀ {X : Cx} {x : Nat} {a : Addr} (Φ : Fn), CtxA X cl c i x a e → PA X zs (tEsX X cl x a (evEs Φ zs')))
  | 0 => ⟨fun h => by simp [chkXE] at h, fun h => by simp [chkXEs] at h⟩
  | n + 1 => by
    obtain ⟨iE, iEs⟩ := sndX n
    refine ⟨fun {c i e z z'} h X x a Φ C => ?_, fun {c i e zs zs'} h => ?_⟩
    · unfold chkXE at h
      split at h
      · simp only [Bool.and_eq_true, decide_eq_true_eq] at h
        obtain ⟨⟨h1, h2⟩, h3⟩ := h
        obtain ⟨o1, o2, _⟩ := okN_of h3
        rw [e_var]
        exact conseq (s_var (C.N ▸ h1) (C.vis h2) o1 o2) fun _ _ _ z => z.2
      · simp only [decide_eq_true_eq] at h
        subst h
        rw [e_cst]; exact conseq s_int fun _ _ _ z => z.2
      · simp only [decide_eq_true_eq] at h
        subst h
        rw [e_cst]; exact conseq s_bl fun _ _ _ z => z.2
      · simp only [decide_eq_true_eq] at h
        subst h
        rw [e_cst]; exact conseq s_str fun _ _ _ z => z.2
      · rw [e_cst]; exact conseq s_non fun _ _ _ z => z.2
      · simp only [Bool.and_eq_true] at h
        obtain ⟨r, ho, hs⟩ := opOf cl h.1.1 X
        rw [e_bin]
        exact conseq (pe_op ho (iE h.1.2 Φ C) (iE h.2 Φ C)) fun σ H Q z => ⟨z.1, tR.mono (t2 hs z.2) fun v H1 q => ⟨z.1, q⟩⟩
      · rw [e_tup]
        exact conseq (pe_tupF ((iEs h).2 Φ C)) fun σ H Q z => ⟨z.1, tR.bind z.2 fun m ρ ws vs h H1 rs rh r z1 => by
          try dsimp only at z1
          split at z1
          · rename_i hl
            exact ⟨by rw [← r.len, ← lim_eq]; exact hl, z1.newT rh r⟩
          · exact z1.no⟩
      · simp only [Bool.and_eq_true, beq_iff_eq] at h
        obtain ⟨⟨⟨h1, h2⟩, h3⟩, h4⟩ := h
        subst h1
        unfold bltB at h2
        simp only [Bool.and_eq_true] at h2
        obtain ⟨o1, _, o3⟩ := okN_of h2.2
        rw [e_bi, es_cons, es_nil]
        refine conseq (pe_callTy call_int1 (C.gl h2.1.2) (C.blt _ h2.1.1) (by decide +kernel) (pa_cons (iE h4 Φ C) pa_nil (star1 h3 _ _)) o3 o1 (star1 h3 _ _) rfl) fun σ H Q z => ⟨z.1, ?_⟩
        obtain ⟨m, ρ, h, rs, rh, z2⟩ := z.2
        have z2 : RV (gx X cl) (Rep (gx X cl).K) m H ((((evE Φ _ ρ h).bind fun x h => (Res.ok [] h).bind fun xs h => .ok (x :: xs) h)).bind fun vs h => bi .toInt vs h) Q (fun c d H' => noW c d σ H') := z2
        rw [Res.bind_assoc] at z2
        refine ⟨m, ρ, h, rs, rh, (RV.bind z2).mono fun b H1 q => ?_⟩
        obtain ⟨m1, w, h1, n1, rh1, r1, z3⟩ := q
        exact toIntS m1 H1 h1 [w] [b] Q _ rh1 (.cons r1 .nil) z3
      · simp only [decide_eq_true_eq] at h
        rw [e_cst]
        refine conseq ((hv_ok n).1 h C) fun σ H Q z => ⟨z.1, fun H' l => ?_⟩
        obtain ⟨m, ρ, h, rs, rh, z2⟩ := z.2
        exact z2 m H' _ l.nx (l.rel rh) .bl'
      · cases h
    · unfold chkXEs at h
      split at h
      · exact ⟨fun env => rfl, fun {X x a} Φ C => by rw [es_nil]; exact conseqA s_anil fun _ _ _ z => z.2⟩
      · simp only [Bool.and_eq_true] at h
        obtain ⟨⟨h1, h2⟩, h3⟩ := h
        obtain ⟨q1, q2⟩ := iEs h3
        refine ⟨fun env => by rw [star1 h1, q1]; rfl, fun {X x a} Φ C => ?_⟩
        rw [es_cons]
        exact conseqA (pa_cons (iE h2 Φ C) (q2 Φ C) (star1 h1 _ _)) fun σ H Q z => ⟨z.1, tR.bind z.2 fun m ρ wa x h H1 rs rh ra z1 => ⟨z.1, tR.next rs rh z1 fun m2 ws vs h2 H2 n rs2 rh2 r z2 => z2.here rh2 (.cons (ra.mono n) r)⟩⟩
      · cases h
end
/-! ### statements of the suite -/
section
variable (G : GX) (x : Nat) (a : Addr)
def FlX (f : Fl) (ρ' : En) (m' : List Addr) (H' : Hp) (D : Ends) : Prop :=
  match f with
  | .next => ∀ σ', RepS G.K H' m' ρ' σ' → σ'[x]? = some (some (.ref a)) → D.nx σ' H'
  | .brk => ∀ σ', RepS G.K H' m' ρ' σ' → σ'[x]? = some (some (.ref a)) → D.bk σ' H'
  | .cont => ∀ σ', RepS G.K H' m' ρ' σ' → σ'[x]? = some (some (.ref a)) → D.ct σ' H'
  | .ret w => ∀ v, Rep G.K H' m' w v → D.rt v H'
  | .rz _ => True
def RSX (m : List Addr) (H : Hp) (r : Rs) (D : Ends) : Prop :=
  match r with
  | .ok (f, ρ') h' => ∀ m' H', Nx m H m' H' → RelH G.K m' H' h' → FlX G x a f ρ' m' H' D
  | _ => False
def tSX (ev : En → Hw → Rs) : TS := fun D σ H => σ[x]? = some (some (.ref a)) ∧ ∃ m ρ h, RepS G.K H m ρ σ ∧ RelH G.K m H h ∧ RSX G x a m H (ev ρ h) D
end
section
variable {G : GX} {x : Nat} {a : Addr} {m m1 : List Addr} {H H1 : Hp} {h : Hw} {D : Ends} {ρ : En} {σ : L2.St}
theorem RSX.down {r : Rs} (n : Nx m H m1 H1) (z : RSX G x a m H r D) : RSX G x a m1 H1 r D := by
  cases r with
  | ok q h' =>
    obtain ⟨f, ρ'⟩ := q
    exact fun m' H' n' r => z m' H' (n.trans n') r
  | exc e h' => exact z
  | err => exact z
theorem RSX.st {β γ : Type} {R : Hp → List Addr → β → γ → Prop} {r : Res β} {f : β → Hw → Rs} {E : XK} (rs : RepS G.K H m ρ σ) (z : RSX G x a m H (r.st ρ f) D) (hE : ∀ c d H', E c d H') :
    RV G R m H r (fun b H1 => ∃ m1 w h1, Nx m H m1 H1 ∧ RepS G.K H1 m1 ρ σ ∧ RelH G.K m1 H1 h1 ∧ R H1 m1 w b ∧ RSX G x a m1 H1 (f w h1) D) E := by
  cases r with
  | ok w h' => exact fun m' H' b n rh q => ⟨m', w, h', n, rs.mono n, rh, q, RSX.down n z⟩
  | exc e h' => exact fun m' H' c d n rh q => hE c d H'
  | err => exact z
end
section
variable {X : Cx} {cl : List Value} {c : Cc} {i x : Nat} {a : Addr} {e : Str} {z : Expr} {pos : Pos} {ee : En → Hw → Res W} {es es2 : En → Hw → Rs} {st : Stmt} {ss : List Stmt}
theorem sx_ret (he : PE X z (tEX X cl x a ee)) : PS X (.Return (some z) pos) (tSX (gx X cl) x a fun ρ h => (ee ρ h).st ρ fun w h => .ok (.ret w, ρ) h) :=
  conseqS (ps_ret he) fun D σ H q => by
    obtain ⟨hx, m, ρ, h, rs, rh, q⟩ := q
    refine ⟨hx, m, ρ, h, rs, rh, (RSX.st rs q fun _ _ _ => trivial).mono fun b H1 y => ?_⟩
    obtain ⟨m1, w, h1, n1, rs1, rh1, r, q1⟩ := y
    exact q1 m1 H1 .refl rh1 b r
theorem sx_retN : PS X (.Return none pos) (tSX (gx X cl) x a fun ρ h => .ok (.ret .non, ρ) h) :=
  conseqS ps_retN fun D σ H ⟨hx, m, ρ, h, rs, rh, q⟩ => q m H .refl rh .non .non'
theorem sx_asg {j : Nat} {y : Str} {py : Pos} (hj : j ≠ x) (he : PE X z (tEX X cl x a ee)) (hg : PG X (.Name y py) (gName j)) (hs : swapsWithSole [.Name y py] z pos.line X.env = pure false) (hw : swappedStores [.Name y py] z X.env = pure none) (h1 : (assignEach [.Name y py] X.env).map (·.2) = [assign (.Name y py) X.env]) :
    PS X (.Assign [.Name y py] z pos) (tSX (gx X cl) x a fun ρ h => (ee ρ h).st ρ fun w h => match asg (.var j) w ρ with | some ρ' => .ok (.next, ρ') h | none => .err) :=
  conseqS (ps_asg he hg hs hw h1) fun D σ H q => by
    obtain ⟨hx, m, ρ, h, rs, rh, q⟩ := q
    refine ⟨hx, m, ρ, h, rs, rh, (RSX.st rs q fun _ _ _ => trivial).mono fun b H1 y => ?_⟩
    obtain ⟨m1, w, h1, n1, rs1, rh1, r, q1⟩ := y
    exact q1 m1 H1 .refl rh1 _ (rs1.setS r j) (by rw [List.getElem?_set_ne hj]; exact hx)
theorem sx_nil : PSs X [] (tSX (gx X cl) x a fun ρ h => .ok (.next, ρ) h) := conseqSs pss_nil fun D σ H ⟨hx, m, ρ, h, rs, rh, z⟩ => z m H .refl rh σ rs hx
theorem sx_cons (h1 : PS X st (tSX (gx X cl) x a es)) (h2 : PSs X ss (tSX (gx X cl) x a es2)) : PSs X (st :: ss) (tSX (gx X cl) x a fun ρ h => match es ρ h with
    | .ok (.next, ρ) h => es2 ρ h
    | .ok (f, ρ) h => .ok (f, ρ) h
    | _ => .err) :=
  conseqSs (pss_cons h1 h2) fun D σ H ⟨hx, m, ρ, h, rs, rh, z⟩ => by
    refine ⟨hx, m, ρ, h, rs, rh, ?_⟩
    try dsimp only at z
    cases e1 : es ρ h with
    | ok q h' =>
      obtain ⟨f, ρ'⟩ := q
      rw [e1] at z
      intro m' H' n rh'
      cases f with
      | next => exact fun σ' rs' hx' => ⟨hx', m', ρ', h', rs', rh', RSX.down n z⟩
      | brk => exact z m' H' n rh'
      | cont => exact z m' H' n rh'
      | ret w => exact z m' H' n rh'
      | rz e => exact z m' H' n rh'
    | exc x h' => rw [e1] at z; exact z
    | err => rw [e1] at z; exact z
theorem sndXG {y : Str} {py : Pos} {j n : Nat} (C : CtxA X cl c i x a e) (h : chkG n c (.Name y py) (.var j) = true) : PG X (.Name y py) (gName j) := by
  cases n with
  | zero => simp [chkG] at h
  | succ n =>
    unfold chkG at h
    simp only [Bool.and_eq_true, decide_eq_true_eq] at h
    obtain ⟨h1, h2⟩ := h
    have s : L2.Loc X.env.scope y ∧ (X.fn y = true ∨ X.env.scope.names.lookup y = some .local) := by
      unfold stoB at h2
      unfold L2.Loc
      rw [C.sc, C.fn]
      split at h2
      · rename_i e; exact ⟨.inl e, .inr e⟩
      · rename_i e; exact ⟨.inr e, .inl h2⟩
      · cases h2
    exact pg_name (C.N ▸ C.nd) (C.N ▸ h1) s.1 s.2
/-- try: body, except C as e: suite -/
theorem ss_tryA {Wx : WX} {body suite : List Stmt} {b₀ : Stmt} {y : Str} {np pos' : Pos} {D0 : Addr} (hs : X.stack = X.env :: X.outer) (hf : X.env.frame = some X.env.locals) (hN : X.N.Nodup) (hi : X.N[x]? = some e) (hln : X.env.kindOf e = some .local) (hc : Names X y (.ref D0)) (tk : Takes X Wx) (hcl : cl[i]? = some (.ref D0)) (hx : PySem.W.exmOne X.K (.ref D0) (.ref D0) = some true)
    (hb : ∀ (W : WX) (pn : List (Addr × Obj)) (xe : Value → Shared → Prop), Takes (X.tr pn xe) W → PassesOwn (model X.prog X.w) X.A X.env xe → PSs (X.tr pn xe) body (tS (gx X cl) W es))
    (hsu : ∀ (a : Addr) (oe : Obj) (pn : List (Addr × Obj)), Zc (.ref D0) none oe → (∃ vs, oe.data = .fields vs) → PSs (X.suite a ((a, oe) :: pn)) (b₀ :: suite) (tSX (gx X cl) x a es2)) :
    PS X (.Try body [.ExceptHandler (some (.Name y np)) (some e) (b₀ :: suite) pos'] [] [] pos) (tS (gx X cl) Wx fun ρ h => match es ρ h with
      | .ok (.rz e, ρ') h' => if (e.cls = i ∧ e.args = []) ∧ x < ρ'.length then (match es2 (ρ'.set x none) h' with
        | .ok (f, ρ2) h2 => .ok (f, ρ2.set x none) h2
        | _ => .err) else .err
      | .ok (f, ρ') h' => .ok (f, ρ') h'
      | _ => .err) :=
  conseqS (ps_try_as (ts := fun a c d D σ H => (c = .ref D0 ∧ d = none) ∧ tSX (gx X cl) x a es2 D σ H) hs hf hN hi hln hc tk (fun W pn xe t p => hb W pn xe t p)
    (fun a oe c d pn hz hfs => ⟨fun pins s σ H D I h => by obtain ⟨⟨rfl, rfl⟩, h⟩ := h; exact (hsu a oe pn hz hfs).run pins s σ H D I h⟩)) fun D σ H ⟨m, ρ, h, rs, rh, z⟩ => by
    refine ⟨m, ρ, h, rs, rh, ?_⟩
    try dsimp only at z
    cases e1 : es ρ h with
    | ok q h' =>
      obtain ⟨f, ρ'⟩ := q
      rw [e1] at z
      intro m' H' n rh'
      cases f with
      | next => exact z m' H' n rh'
      | brk => exact z m' H' n rh'
      | cont => exact z m' H' n rh'
      | ret w => exact z m' H' n rh'
      | rz u =>
        dsimp only at z
        split at z
        · rename_i hq
          intro σ' k d rs' rx
          obtain ⟨r1, r2, r3⟩ := rx
          have ec : k = .ref D0 := by
            rw [hq.1.1, show (gx X cl).cls = cl from rfl, hcl] at r1
            exact (Option.some.inj r1).symm
          subst ec
          refine ⟨true, hx, fun _ a _ => ⟨⟨rfl, r3⟩, ?_, m', ρ'.set x none, h', rs'.setN x, rh', ?_⟩, fun q => by cases q⟩
          · rw [List.getElem?_set_self (by rw [← rs'.len]; exact hq.2)]
          · have z := RSt.down n z
            cases e2 : es2 (ρ'.set x none) h' with
            | ok q2 h2 =>
              obtain ⟨f2, ρ2⟩ := q2
              rw [e2] at z
              intro m2 H2 n2 rh2
              have z := z m2 H2 n2 rh2
              cases f2 with
              | next => exact fun σ2 rs2 _ => z _ (rs2.setN x)
              | brk => exact fun σ2 rs2 _ => z _ (rs2.setN x)
              | cont => exact fun σ2 rs2 _ => z _ (rs2.setN x)
              | ret w => exact z
              | rz u2 => exact trivial
            | exc u2 h2 => rw [e2] at z; exact z
            | err => rw [e2] at z; exact z
        · exact z.no
    | exc u h' => rw [e1] at z; exact z
    | err => rw [e1] at z; exact z
end

/-! ### a def that tells of which classes its exception is -/
section
variable {X : Cx} {cl : List Value} {c : Cc} {i x : Nat} {a : Addr} {e : Str}
theorem hvL_ok {n : Nat} (C : CtxA X cl c i x a e) : ∀ {l : List Expr} {bs : List Bool}, hvL n c i e l = some bs → bs.length = l.length ∧ PA X l (fun σ H Q => σ[x]? = some (some (.ref a)) ∧ ∀ H', Laid H H' → Q (bs.map V.bl) H')
  | [], bs, h => by
    cases h
    exact ⟨rfl, conseqA pa_nil fun σ H Q z => z.2 H .refl⟩
  | z :: r, bs, h => by
    unfold hvL at h
    split at h
    · rename_i q qs e1 e2
      cases h
      obtain ⟨l1, p1⟩ := hvL_ok C e2
      exact ⟨by simp [l1], conseqA (pa_cons ((hv_ok n).1 e1 C) p1 (star1 (hv_ns e1) _ _)) fun σ H Q y => ⟨y.1, fun H1 k1 => ⟨y.1, fun H2 k2 => y.2 H2 (k1.trans k2)⟩⟩⟩
    · cases h
end
theorem sg_ok {P : Program} {w : World} {K : PySem.W.Frag} {mg : Str → Option Value} {base : Heap} {cl : List Value} {c : Cc} {i : Nat} {b : Bool} {y : Str} {params : Arguments} {body : List Stmt} {fa : Addr} {fd : FuncData} {e0 : Str}
    (F : FunD K y y params body c.sc [] [] fa fd) (S : FnScope c.N [e0] c.sc) (hb : Binds K fd [e0] []) (hm : mg y = some (.ref fa)) (hfn : c.fn = fun _ => true) (hsg : c.sng = []) (h : sngB c i body = some b)
    (ist : ∀ p ∈ c.ist, IsF K mg cl p) (blt : ∀ x : Str, c.blt.contains x = true → mg x = none) : SgF P w K mg base cl (y, i, b) := by
  obtain ⟨oc, od, dV, kV, doc, pm, an, cdv, ct, osl, rfl, lk, hcd, _, _⟩ := F.ex
  refine ⟨fa, _, e0, hm, F.kp, hb, fun A outer s H args a oe D Q hr hpin hcl hz hfs e1 bd hq => ?_⟩
  have KX : K.In s.heap := e1.mod.kin.keeps fun b o e => (e1.bs b o e).1
  have lim : s.heap.NoLimit := e1.mod.nolimit.keeps fun b o e => (e1.bs b o e).1
  have kinds : ∀ q ∈ [e0].zip [Value.ref a], c.sc.names.lookup q.1 = some .local ∨ (c.sc.names.lookup q.1 = some .cell ∧ ((cellsFrom (s.heap.objs.size + 1) c.sc.names []).lookup q.1).isSome = true) := fun q hq => by
    obtain ⟨n, v⟩ := q
    rcases S.par n (List.of_mem_zip hq).1 with k | k
    · exact .inl k
    · exact .inr ⟨k, PySem.W.cellsFrom_some _ _ _ (.inl k)⟩
  refine codeAny_call_function hr.depth (KX _ _ lk) rfl S.co S.gen rfl (PySem.W.codeRec_of KX hcd) (bd _ _ _ _ (wpAny_newFunctionEnv_cells S.kind kinds fun env he s1 call => ?_))
  subst he
  refine ⟨lim.keeps call.toInCall.keep, codeAny_func ?_⟩
  have I : Inv (cxH (L2.CX P w) P w K mg base c.N y c.sc fa cdv A outer s H (fun _ _ _ => False) (a, oe)) [] (L2.start c.N [.ref a]) H s1 := inv_startH S hpin e1 rfl (.cons rfl .nil) call
  have body_ : ∃ t, PSs (cxH (L2.CX P w) P w K mg base c.N y c.sc fa cdv A outer s H (fun _ _ _ => False) (a, oe)) body t ∧ t { nx := fun _ H' => Q .non H', rt := Q } (L2.start c.N [.ref a]) H := by
    unfold sngB at h
    split at h
    · rename_i f1 pp1 l1 qq1 rr1 f2 pp2 f3 pp3 l2 qq2 oo2 rr2 f4 pp4 f5 pp5 l3 qq3 oo3 rr3 a1 a2 f6 pp6 m apos j7 pp7 cpos j8 pp8 pp9 pp10 pp11
      split at h
      · rename_i e f hN
        split at h
        · rename_i hh
          simp only [Bool.and_eq_true, beq_iff_eq, decide_eq_true_eq] at hh
          obtain ⟨⟨⟨⟨⟨⟨⟨⟨⟨⟨⟨⟨rfl, rfl⟩, rfl⟩, rfl⟩, rfl⟩, rfl⟩, rfl⟩, hline⟩, oe1⟩, of1⟩, le⟩, lf⟩, hlen⟩ := hh
          split at h
          · rename_i b1 b2 b3 t1 t2 v1 v2 v3 v4 v5
            cases h
            have lce : c.sc.names.lookup e = some .local := by
              unfold locB at le; split at le
              · assumption
              · cases le
            have lcf : c.sc.names.lookup f6 = some .local := by
              unfold locB at lf; split at lf
              · assumption
              · cases lf
            have C : CtxA (cxH (L2.CX P w) P w K mg base c.N y c.sc fa cdv A outer s H (fun _ _ _ => False) (a, oe)) cl c i 0 a e :=
              ⟨rfl, S.nd, rfl, hfn.symm, ⟨oe, D, by show (a, oe) ∈ [(a, oe)]; simp, hcl, hz, hfs⟩, blt, ist, fun p hp => (by rw [hsg] at hp; cases hp), fun z => absurd hsg z, by rw [hN]; rfl, lce, oe1⟩
            obtain ⟨n1, w1⟩ := hvL_ok C v1
            obtain ⟨n2, w2⟩ := hvL_ok C v2
            obtain ⟨n3, w3⟩ := hvL_ok C v3
            have hv4 := (hv_ok (cl := cl) 5).1 v4 C
            have hv5 := (hv_ok (cl := cl) 5).1 v5 C
            have i1 : c.N[1]? = some f6 := by rw [hN]; rfl
            have vf : Vis c.sc f6 := by unfold Vis; exact .inl lcf
            obtain ⟨g1, g2, _⟩ := okN_of of1
            have sz : (20 : Nat) ≤ sizeLine := by rw [sizeLine_eq]; decide
            refine ⟨_, pss_cons (ps_set (i := 1) S.nd i1 (.inl lcf) (pe_lst w1)) (pss_cons (ps_set (i := 1) S.nd i1 (.inl lcf) (pe_op op_cat (pe_var (i := 1) i1 vf g1 g2) (pe_lst w2)))
              (pss_cons (ps_set (i := 1) S.nd i1 (.inl lcf) (pe_op op_cat (pe_var (i := 1) i1 vf g1 g2) (pe_lst w3)))
              (pss_one (ps_ret (pe_and hv4 (pe_and hv5 (pe_one (pe_cmpR op_eq (pe_bm PySem.F.plainAttrs_list PySem.F.slot_list_count PySem.F.type_list_count mt_bcount (pe_var (i := 1) i1 vf g1 g2) (pa_cons pe_bl pa_nil) (hline := beq_iff_eq.mpr hline)) pe_int rfl)))))))), ?_⟩
            rw [show L2.start c.N [.ref a] = [some (.ref a), none] by rw [hN]; rfl]
            refine ⟨rfl, fun Ha la => ⟨by rw [List.length_map]; omega, fun p1 hp1 => ?_⟩⟩
            have k1 : upd Ha p1 (.lst (b1.map V.bl)) p1 = some (.lst (b1.map V.bl)) := upd_same
            have L1 := la.step (o := .lst (b1.map V.bl)) hp1
            revert k1 L1
            generalize upd Ha p1 (.lst (b1.map V.bl)) = H1
            intro k1 L1
            refine ⟨.ref p1, rfl, rfl, fun Hb lb => ⟨by rw [List.length_map]; omega, fun p2 hp2 => ?_⟩⟩
            have k2 := lb.keep k1
            have ne2 : p1 ≠ p2 := fun z => by rw [z, hp2] at k2; cases k2
            refine ⟨p1, p2, _, _, rfl, rfl, by rw [upd_ne ne2]; exact k2, upd_same, by rw [List.length_map, List.length_map]; omega, fun p3 hp3 => ?_⟩
            have k3 : upd (upd Hb p2 (.lst (b2.map V.bl))) p3 (.lst (b1.map V.bl ++ b2.map V.bl)) p3 = some (.lst (b1.map V.bl ++ b2.map V.bl)) := upd_same
            have L2 := ((L1.trans lb).step (o := .lst (b2.map V.bl)) hp2).step (o := .lst (b1.map V.bl ++ b2.map V.bl)) hp3
            revert k3 L2
            generalize upd (upd Hb p2 (.lst (b2.map V.bl))) p3 (.lst (b1.map V.bl ++ b2.map V.bl)) = H2
            intro k3 L2
            refine ⟨.ref p3, rfl, rfl, fun Hc lc => ⟨by rw [List.length_map]; omega, fun p4 hp4 => ?_⟩⟩
            have k4 := lc.keep k3
            have ne4 : p3 ≠ p4 := fun z => by rw [z, hp4] at k4; cases k4
            refine ⟨p3, p4, _, _, rfl, rfl, by rw [upd_ne ne4]; exact k4, upd_same, by rw [List.length_append, List.length_map, List.length_map, List.length_map]; omega, fun p5 hp5 => ?_⟩
            have k5 : upd (upd Hc p4 (.lst (b3.map V.bl))) p5 (.lst (b1.map V.bl ++ b2.map V.bl ++ b3.map V.bl)) p5 = some (.lst (b1.map V.bl ++ b2.map V.bl ++ b3.map V.bl)) := upd_same
            have L3 := ((L2.trans lc).step (o := .lst (b3.map V.bl)) hp4).step (o := .lst (b1.map V.bl ++ b2.map V.bl ++ b3.map V.bl)) hp5
            revert k5 L3
            generalize upd (upd Hc p4 (.lst (b3.map V.bl))) p5 (.lst (b1.map V.bl ++ b2.map V.bl ++ b3.map V.bl)) = H3
            intro k5 L3
            rw [← List.map_append, ← List.map_append] at k5
            refine ⟨rfl, fun Hd ld => ⟨t1, rfl, ?_⟩⟩
            cases t1
            · exact hq Hd (L3.trans ld)
            · refine ⟨rfl, fun He le => ⟨t2, rfl, ?_⟩⟩
              cases t2
              · exact hq He ((L3.trans ld).trans le)
              · have k6 := le.keep (ld.keep k5)
                refine ⟨.ref p5, rfl, .inl ⟨rfl, _, SqL.of k6⟩, p5, _, rfl, rfl, SqL.of k6, rfl, ?_⟩
                have q := hq He ((L3.trans ld).trans le)
                have ed : decide (V.int (((b1 ++ b2 ++ b3).count true : Nat) : Int) = V.int 1) = (true && (true && decide ((b1 ++ b2 ++ b3).count true = 1))) := by
                  rw [Bool.eq_iff_iff]
                  simp only [Bool.true_and, decide_eq_true_eq, V.int.injEq]
                  omega
                show Q (.bl (decide (V.int (((b1 ++ b2 ++ b3).count true : Nat) : Int) = V.int 1))) He
                rw [ed]; exact q
          · cases h
        · cases h
      · cases h
    · cases h
  obtain ⟨t, ht, hq2⟩ := body_
  refine wpAny_mono (ht.run [] s1 (L2.start c.N [.ref a]) H _ I hq2) (fun fl s' hs => ?_) fun u s' hs => hs
  have fin : ∀ {σ' : L2.St} {H' : Hp} {v : V} {u : Value}, Inv (cxH (L2.CX P w) P w K mg base c.N y c.sc fa cdv A outer s H (fun _ _ _ => False) (a, oe)) [] σ' H' s' → RelV v u → Q v H' → CE outer P w H s Q u s' :=
    fun J rv q => ⟨_, _, J.os, J.bare, J.base, J.hok, rv, q⟩
  cases fl with
  | ret u =>
    obtain ⟨v, σ', H', J, rv, q⟩ := hs
    exact fin J rv q
  | next =>
    obtain ⟨σ', H', J, q⟩ := hs
    exact fin (v := V.non) (u := Value.none) J rfl q
  | _ =>
    obtain ⟨_, _, _, q⟩ := hs
    exact (show False from q).elim
end Ev

set_option Elab.async false
set_option linter.all false
set_option maxRecDepth 100000
set_option maxHeartbeats 8000000
/-! EvD: the judgement of every statement that fits; defs; a whole text. -/
namespace Ev
open PySem PySem.Spec PyProof.Rows L2
section
variable (Φ : Fn)
theorem v_expr (e : IE) : evS Φ (.expr e) = fun ρ h => (evE Φ e ρ h).st ρ fun _ h => .ok (.next, ρ) h := by funext ρ h; rw [evS] <;> rfl
theorem v_asg (t : IG) (e : IE) : evS Φ (.asg t e) = fun ρ h => (evE Φ e ρ h).st ρ fun x h => match asg t x ρ with
    | some ρ' => .ok (.next, ρ') h
    | none => .err := by funext ρ h; rw [evS] <;> rfl
theorem v_set (o i e : IE) : evS Φ (.set o i e) = fun ρ h => (evE Φ e ρ h).st ρ fun v h => (evE Φ o ρ h).st ρ fun x h => (evE Φ i ρ h).st ρ fun y h => match setIt x y v h with
    | some h' => .ok (.next, ρ) h'
    | none => .err := by funext ρ h; rw [evS] <;> rfl
theorem v_dset (o i e : IE) : evS Φ (.dset o i e) = fun ρ h => (evE Φ e ρ h).st ρ fun v h => (evE Φ o ρ h).st ρ fun x h => (evE Φ i ρ h).st ρ fun y h => match dputV x y v h with
    | some h' => .ok (.next, ρ) h'
    | none => .err := by funext ρ h; rw [evS] <;> rfl
theorem v_daug (d k : IE) (p : Bop) (e : IE) : evS Φ (.daug d k p e) = fun ρ h => (evE Φ d ρ h).st ρ fun x h => (evE Φ k ρ h).st ρ fun y h => (dgetV x y h).st ρ fun w h => (evE Φ e ρ h).st ρ fun v h => match augO p w v with
    | some z => (match dputV x y z h with
      | some h' => .ok (.next, ρ) h'
      | none => .err)
    | none => .err := by funext ρ h; rw [evS] <;> rfl
theorem v_aug (i : Nat) (o : Bop) (e : IE) : evS Φ (.aug i o e) = fun ρ h => match ρ[i]? with
    | some (some x) => (evE Φ e ρ h).st ρ fun y h => match o, x, y with
      | .add, .int a, .int b => .ok (.next, ρ.set i (some (.int (a + b)))) h
      | .sub, .int a, .int b => .ok (.next, ρ.set i (some (.int (a - b)))) h
      | _, _, _ => .err
    | _ => .err := by funext ρ h; rw [evS] <;> rfl
theorem v_augS (o i : IE) (p : Bop) (e : IE) : evS Φ (.augS o i p e) = fun ρ h => (evE Φ o ρ h).st ρ fun x h => (evE Φ i ρ h).st ρ fun y h => (itemL x y h).st ρ fun w h => (evE Φ e ρ h).st ρ fun v h => match augO p w v with
    | some z => (match setIt x y z h with
      | some h' => .ok (.next, ρ) h'
      | none => .err)
    | none => .err := by funext ρ h; rw [evS] <;> rfl
theorem v_bad : evS Φ .bad = fun _ _ => .err := by funext ρ h; rw [evS] <;> rfl
theorem v_ifs (c : IT) (a b : ISs) : evS Φ (.ifs c a b) = fun ρ h => (evT Φ c ρ h).st ρ fun k h => if k = true then evSs Φ a ρ h else evSs Φ b ρ h := by funext ρ h; rw [evS] <;> rfl
theorem v_for (t : IG) (it : II) (b : ISs) : evS Φ (.for t it b) = fun ρ h => (evI Φ it ρ h).st ρ fun q h => forL t q.2 (evSs Φ b) q.1 ρ h := by funext ρ h; rw [evS] <;> rfl
theorem v_whl (c : IT) (b : ISs) : evS Φ (.whl c b) = fun ρ h => whl (evT Φ c) (evSs Φ b) ρ h := by funext ρ h; rw [evS] <;> rfl
theorem v_ret (e : IE) : evS Φ (.ret e) = fun ρ h => (evE Φ e ρ h).st ρ fun x h => .ok (.ret x, ρ) h := by funext ρ h; rw [evS] <;> rfl
theorem v_retN : evS Φ .retN = fun ρ h => .ok (.ret .non, ρ) h := by funext ρ h; rw [evS] <;> rfl
theorem v_brk : evS Φ .brk = fun ρ h => .ok (.brk, ρ) h := by funext ρ h; rw [evS] <;> rfl
theorem v_cont : evS Φ .cont = fun ρ h => .ok (.cont, ρ) h := by funext ρ h; rw [evS] <;> rfl
theorem v_pass : evS Φ .pass = fun ρ h => .ok (.next, ρ) h := by funext ρ h; rw [evS] <;> rfl
theorem v_rz (i : Nat) : evS Φ (.rz i) = fun ρ h => .ok (.rz ⟨i, []⟩, ρ) h := by funext ρ h; rw [evS] <;> rfl
theorem v_try (b : ISs) (i : Nat) (s : ISs) : evS Φ (.tryE b i s) = fun ρ h => match evSs Φ b ρ h with
    | .ok (.rz e, ρ') h' => if e.cls = i ∧ e.args = [] then evSs Φ s ρ' h' else .err
    | .ok (f, ρ') h' => .ok (f, ρ') h'
    | _ => .err := by funext ρ h; rw [evS] <;> rfl
theorem v_tryA (b : ISs) (i x : Nat) (s : ISs) : evS Φ (.tryA b i x s) = fun ρ h => match evSs Φ b ρ h with
    | .ok (.rz e, ρ') h' => if (e.cls = i ∧ e.args = []) ∧ x < ρ'.length then (match evSs Φ s (ρ'.set x none) h' with
      | .ok (f, ρ2) h2 => .ok (f, ρ2.set x none) h2
      | _ => .err) else .err
    | .ok (f, ρ') h' => .ok (f, ρ') h'
    | _ => .err := by funext ρ h; rw [evS] <;> rfl
theorem v_lckS (g : IE) (s : IS) : evS Φ (.lckS g s) = fun ρ h => match lkOf (evE Φ g ρ h) h with
    | some (n, kvs) => (match evS Φ s ρ (h.set n (.dic true kvs)) with
      | .ok (.rz e, ρ') h' => .ok (.rz e, ρ') h'
      | .ok (f, ρ') h' => (match unlk n h' with
        | some h2 => .ok (f, ρ') h2
        | none => .err)
      | _ => .err)
    | none => .err := by funext ρ h; rw [evS] <;> rfl
theorem vs_nil : evSs Φ .nil = fun ρ h => .ok (.next, ρ) h := by funext ρ h; rw [evSs] <;> rfl
theorem vs_cons (s : IS) (ss : ISs) : evSs Φ (.cons s ss) = fun ρ h => match evS Φ s ρ h with
    | .ok (.next, ρ) h => evSs Φ ss ρ h
    | .ok (f, ρ) h => .ok (f, ρ) h
    | _ => .err := by funext ρ h; rw [evSs] <;> rfl
end
section
variable (cl : List Value)
def SS (n : Nat) : Prop := ∀ c s is, chkS n c s is = true → ∀ (X : Cx) k Φ Wx, Ctx X cl c k Φ Wx → PS X s (tS (gx X cl) Wx (evS Φ is))
def SSs (n : Nat) : Prop := ∀ c ss iss, chkSs n c ss iss = true → ∀ (X : Cx) k Φ Wx, Ctx X cl c k Φ Wx → PSs X ss (tS (gx X cl) Wx (evSs Φ iss))
theorem assign1 {tg : Expr} (h : notStar tg = true) (env : Env) : (assignEach [tg] env).map (·.2) = [assign tg env] := by
  rw [asg1 h]; rfl
theorem sub_assign {o i : Expr} {p2 : Pos} (h : notSlice i = true) (env : Env) (v : Value) : assign (.Subscript o i p2) env v = (do
      let ov ← holding [v] (eval o env)
      let iv ← holding [v, ov] (eval i env)
      standAt p2
      holding [v, ov, iv] (setItem ov iv v)
      release [v, ov, iv] []) := by
  cases i <;> first | rfl | (simp only [notSlice] at h; cases h)
theorem aug_store {i : Expr} (h : notSlice i = true) (ov iv new : Value) : augStore i ov iv new = (do holding [new, ov, iv] (setItem ov iv new); release [new, ov, iv] []; pure .next) := by
  cases i <;> first | rfl | (simp only [notSlice] at h; cases h)
theorem swap_true {X : Cx} {c : Cc} {y : Str} {py pos : Pos} {elt : Expr} {gs : List Comprehension} {scope : Scope} {l : Nat} (hk : X.env.scope.kind = .function) (hs : X.env.scope = c.sc) (h : swapB c y py scope pos = true) :
    X.env.scope.names.lookup y = some .local ∧ swapsWith (.ListComp elt gs scope pos) (some (.Name y py)) l X.env = pure true := by
  unfold swapB at h
  simp only [Bool.and_eq_true, Bool.not_eq_true'] at h
  obtain ⟨⟨h1, h2⟩, h3⟩ := h
  split at h1
  · rename_i e
    rw [← hs] at e
    exact ⟨e, sw_true hk e h2 h3⟩
  · cases h1
theorem cell_false {X : Cx} {c : Cc} {y : Str} {py pos : Pos} {elt : Expr} {gs : List Comprehension} {scope : Scope} {l : Nat} (hs : X.env.scope = c.sc) (h : cellB c y = true) :
    swapsWithSole [.Name y py] (.ListComp elt gs scope pos) l X.env = pure false := by
  unfold cellB at h
  split at h
  · rename_i e
    rw [← hs] at e
    show pure (X.env.blockKind == .function && X.env.kindOf y == some .local && py.line == pos.line && !(scope.names.any fun (n, k) => n == y && (k == .local || k == .cell))) = _
    have : X.env.kindOf y = some .cell := e
    have nk : (some NameKind.cell == some NameKind.local) = false := by decide
    rw [this, nk]
    simp only [Bool.and_false, Bool.false_and]
  · cases h
theorem swap_trueD {X : Cx} {c : Cc} {y : Str} {py pos : Pos} {kx vx : Expr} {gs : List Comprehension} {scope : Scope} {l : Nat} (hk : X.env.scope.kind = .function) (hs : X.env.scope = c.sc) (h : swapB c y py scope pos = true) :
    X.env.scope.names.lookup y = some .local ∧ swapsWith (.DictComp kx vx gs scope pos) (some (.Name y py)) l X.env = pure true := by
  unfold swapB at h
  simp only [Bool.and_eq_true, Bool.not_eq_true'] at h
  obtain ⟨⟨h1, h2⟩, h3⟩ := h
  split at h1
  · rename_i e
    rw [← hs] at e
    exact ⟨e, sw_trueD hk e h2 h3⟩
  · cases h1
theorem cell_falseD {X : Cx} {c : Cc} {y : Str} {py pos : Pos} {kx vx : Expr} {gs : List Comprehension} {scope : Scope} {l : Nat} (hs : X.env.scope = c.sc) (h : cellB c y = true) :
    swapsWithSole [.Name y py] (.DictComp kx vx gs scope pos) l X.env = pure false := cell_false (elt := kx) (gs := gs) (l := l) hs h
theorem noSwapS {e o i : Expr} {p : Pos} (l : Nat) (env : Env) (_u : Unit := ()) : swapsWith e (some (.Subscript o i p)) l env = pure false := by
  cases e <;> rfl
/-! an except suite -/
structure CtxH (X : Cx) (c : Cc) : Prop where
  N : X.N = c.N
  nd : c.N.Nodup
  sc : X.env.scope = c.sc
  fn : X.fn = c.fn
theorem CtxH.vis {X : Cx} {c : Cc} (C : CtxH X c) {x : Str} (h : visB c.sc x = true) : Vis X.env.scope x := by
  unfold visB at h
  unfold Vis
  rw [C.sc]
  split at h
  · rename_i e; exact .inl e
  · rename_i e; exact .inr (.inl e)
  · rename_i e; exact .inr (.inr e)
  · cases h
theorem sndH : ∀ n, (∀ c e ie, chkHE n c e ie = true → ∀ (X : Cx) (Wx : WX), CtxH X c → PE X e (tE (gx X cl) Wx (evE Φ ie))) ∧
    (∀ c es ies, chkHEs n c es ies = true → (∀ env, starEach es env = es.map fun e => (false, eval e env)) ∧ ∀ (X : Cx) (Wx : WX), CtxH X c → PA X es (tEs (gx X cl) Wx (evEs Φ ies)))
  | 0 => ⟨fun _ _ _ h => by simp [chkHE] at h, fun _ _ _ h => by simp [chkHEs] at h⟩
  | n + 1 => by
    obtain ⟨iE, iEs⟩ := sndH n
    refine ⟨fun c e ie h X Wx C => ?_, fun c es ies h => ?_⟩
    · unfold chkHE at h
      split at h
      · simp only [Bool.and_eq_true, decide_eq_true_eq] at h
        obtain ⟨⟨h1, h2⟩, h3⟩ := h
        obtain ⟨o1, o2, _⟩ := okN_of h3
        rw [e_var]
        exact s_var (C.N ▸ h1) (C.vis h2) o1 o2
      · simp only [decide_eq_true_eq] at h
        subst h
        rw [e_cst]; exact s_int
      · simp only [decide_eq_true_eq] at h
        subst h
        rw [e_cst]; exact s_bl
      · simp only [decide_eq_true_eq] at h
        subst h
        rw [e_cst]; exact s_str
      · rw [e_cst]; exact s_non
      · simp only [Bool.and_eq_true] at h
        obtain ⟨r, ho, hs⟩ := opOf cl h.1.1 X
        rw [e_bin]
        exact s_bin ho hs (iE _ _ _ h.1.2 X Wx C) (iE _ _ _ h.2 X Wx C)
      · rw [e_tup]; exact s_tup ((iEs _ _ _ h).2 X Wx C)
      · cases h
    · unfold chkHEs at h
      split at h
      · exact ⟨fun env => rfl, fun X Wx C => by rw [es_nil]; exact s_anil⟩
      · rename_i e es e' es'
        simp only [Bool.and_eq_true] at h
        obtain ⟨⟨h1, h2⟩, h3⟩ := h
        obtain ⟨q1, q2⟩ := iEs _ _ _ h3
        refine ⟨fun env => by rw [star1 h1, q1]; rfl, fun X Wx C => ?_⟩
        rw [es_cons]
        exact s_acons (iE _ _ _ h2 X Wx C) (q2 X Wx C) (star1 h1 _ _)
      · cases h
theorem sndHG {X : Cx} {c : Cc} {x : Str} {py : Pos} {i : Nat} {n : Nat} (C : CtxH X c) (h : chkG n c (.Name x py) (.var i) = true) : PG X (.Name x py) (gG X.K (.var i)) := by
  cases n with
  | zero => simp [chkG] at h
  | succ n =>
    unfold chkG at h
    simp only [Bool.and_eq_true, decide_eq_true_eq] at h
    obtain ⟨h1, h2⟩ := h
    have s : L2.Loc X.env.scope x ∧ (X.fn x = true ∨ X.env.scope.names.lookup x = some .local) := by
      unfold stoB at h2
      unfold L2.Loc
      rw [C.sc, C.fn]
      split at h2
      · rename_i e; exact ⟨.inl e, .inr e⟩
      · rename_i e; exact ⟨.inr e, .inl h2⟩
      · cases h2
    unfold gG; exact pg_name (C.N ▸ C.nd) (C.N ▸ h1) s.1 s.2
theorem sndHS {n : Nat} {c : Cc} {s : Stmt} {is : IS} (h : chkHS n c s is = true) {X : Cx} {Wx : WX} (C : CtxH X c) : PS X s (tS (gx X cl) Wx (evS Φ is)) := by
  obtain ⟨iE, _⟩ := sndH cl (Φ := Φ) n
  unfold chkHS at h
  split at h
  · rw [v_ret]; exact ss_ret (iE _ _ _ h X Wx C)
  · rw [v_retN]; exact ss_retN
  · simp only [Bool.and_eq_true, Bool.not_eq_true'] at h
    obtain ⟨⟨⟨h1, h2⟩, h3⟩, h4⟩ := h
    rw [v_asg]
    refine ss_asg (iE _ _ _ h4 X Wx C) (sndHG C h3) (noSole h1 _ _) ?_ (assign1 rfl _)
    rcases noStores h2 X.env with e | ⟨es, p, e⟩
    · exact e
    · cases e
  · cases h
theorem sndHSs {n : Nat} {c : Cc} : ∀ {ss : List Stmt} {iss : ISs}, chkHSs n c ss iss = true → ∀ {X : Cx} {Wx : WX}, CtxH X c → PSs X ss (tS (gx X cl) Wx (evSs Φ iss))
  | [], .nil, h, X, Wx, C => by rw [vs_nil]; exact ss_nil
  | s :: ss, .cons s' ss', h, X, Wx, C => by
    unfold chkHSs at h
    simp only [Bool.and_eq_true] at h
    rw [vs_cons]
    exact ss_cons (sndHS cl h.1 C) (sndHSs h.2 C)
  | [], .cons _ _, h, _, _, _ => by simp [chkHSs] at h
  | _ :: _, .nil, h, _, _, _ => by simp [chkHSs] at h
theorem sndXS {n : Nat} {c : Cc} {i x : Nat} {a : Addr} {e : Str} {s : Stmt} {is : IS} (h : chkXS n c i x e s is = true) {X : Cx} (C : CtxA X cl c i x a e) : PS X s (tSX (gx X cl) x a (evS Φ is)) := by
  unfold chkXS at h
  split at h
  · rw [v_ret]; exact sx_ret ((sndX n).1 h Φ C)
  · rw [v_retN]; exact sx_retN
  · simp only [Bool.and_eq_true, Bool.not_eq_true', decide_eq_true_eq] at h
    obtain ⟨⟨⟨⟨h0, h1⟩, h2⟩, h3⟩, h4⟩ := h
    rw [v_asg]
    refine sx_asg h0 ((sndX n).1 h4 Φ C) (sndXG C h3) (noSole h1 _ _) ?_ (assign1 rfl _)
    rcases noStores h2 X.env with e | ⟨es, p, e⟩
    · exact e
    · cases e
  · cases h
theorem sndXSs {n : Nat} {c : Cc} {i x : Nat} {a : Addr} {e : Str} : ∀ {ss : List Stmt} {iss : ISs}, chkXSs n c i x e ss iss = true → ∀ {X : Cx}, CtxA X cl c i x a e → PSs X ss (tSX (gx X cl) x a (evSs Φ iss))
  | [], .nil, h, X, C => by rw [vs_nil]; exact sx_nil
  | s :: ss, .cons s' ss', h, X, C => by
    unfold chkXSs at h
    simp only [Bool.and_eq_true] at h
    rw [vs_cons]
    exact sx_cons (sndXS cl h.1 C) (sndXSs h.2 C)
  | [], .cons _ _, h, _, _ => by simp [chkXSs] at h
  | _ :: _, .nil, h, _, _ => by simp [chkXSs] at h
theorem sndS : ∀ n, SS cl n ∧ SSs cl n
  | 0 => ⟨fun _ _ _ h => by simp [chkS] at h, fun _ _ _ h => by simp [chkSs] at h⟩
  | n + 1 => by
    obtain ⟨iS, iSs⟩ := sndS n
    obtain ⟨iE, iB, iEs, iP, iT, iW, iL, iC, iTs, iI, iC2, iJ, iM, iD, iX⟩ := sndE cl n
    refine ⟨fun c s is h X k Φ Wx C => ?_, fun c ss iss h X k Φ Wx C => ?_⟩
    · unfold chkS at h
      split at h
      · rw [v_pass]; exact ss_doc
      · simp only [Bool.and_eq_true] at h
        rw [v_expr]
        exact ss_expr (iE _ _ _ h.2 X k Φ Wx C) (noSwap h.1 _ _ _)
      · rw [Bool.or_eq_true] at h
        rcases h with h | h
        · simp only [Bool.and_eq_true, decide_eq_true_eq] at h
          obtain ⟨⟨h1, h2⟩, h3⟩ := h
          obtain ⟨tg, iter, ifs, own, rfl, rfl, hb, hns, hsl, hp⟩ := iC _ _ _ _ _ _ _ _ _ _ h3
          obtain ⟨p1, p2⟩ := hp X k Φ Wx C
          obtain ⟨hyl, hsw⟩ := swap_true C.kind C.sc h2
          rw [v_asg, e_mk, el_comp]
          exact ss_setLc C.calm (C.N ▸ C.nd) (C.N ▸ h1) hyl hsw p1 (by rw [C.N, C.sc]; exact blkOk_by hb) (fun s H A cs fp => (p2 s H A cs fp).1) (fun s H A cs fp => (p2 s H A cs fp).2.1) (fun s H A cs fp => (p2 s H A cs fp).2.2) (folded hns _) hsl
        · simp only [Bool.and_eq_true] at h
          obtain ⟨⟨h1, h2⟩, h3⟩ := h
          obtain ⟨g1, g2, g3⟩ := (sndG cl n).1 _ _ _ h2
          rw [v_asg]
          refine ss_asg (iE _ _ _ h3 X k Φ Wx C) (g3 X k Φ Wx C) (cell_false C.sc h1) ?_ (assign1 g1 _)
          rcases noStores (e := .ListComp _ _ _ _) (tg := .Name _ _) (by simp [isTupE]) X.env with e | ⟨es, p, e⟩
          · exact e
          · cases e
      · rw [Bool.or_eq_true] at h
        rcases h with h | h
        · simp only [Bool.and_eq_true, decide_eq_true_eq] at h
          obtain ⟨⟨h1, h2⟩, h3⟩ := h
          obtain ⟨tg, iter, ifs, own, rfl, rfl, hb, hns, hsl, hp⟩ := iM _ _ _ _ _ _ _ _ _ _ _ _ h3
          obtain ⟨p1, p2⟩ := hp X k Φ Wx C
          obtain ⟨hyl, hsw⟩ := swap_trueD C.kind C.sc h2
          rw [v_asg, e_dcm]
          exact ss_setDc C.calm (C.N ▸ C.nd) (C.N ▸ h1) hyl hsw p1 (by rw [C.N, C.sc]; exact blkOk_by hb) p2 (folded hns _) hsl
        · simp only [Bool.and_eq_true] at h
          obtain ⟨⟨h1, h2⟩, h3⟩ := h
          obtain ⟨g1, g2, g3⟩ := (sndG cl n).1 _ _ _ h2
          rw [v_asg]
          refine ss_asg (iE _ _ _ h3 X k Φ Wx C) (g3 X k Φ Wx C) (cell_falseD C.sc h1) ?_ (assign1 g1 _)
          rcases noStores (e := .DictComp _ _ _ _ _) (tg := .Name _ _) (by simp [isTupE]) X.env with e | ⟨es, p, e⟩
          · exact e
          · cases e
      · simp only [Bool.and_eq_true] at h
        obtain ⟨⟨⟨⟨h1, h2⟩, h3⟩, h4⟩, h5⟩ := h
        rw [v_set]
        refine ss_set (iE _ _ _ h5 X k Φ Wx C) (iE _ _ _ h3 X k Φ Wx C) (iE _ _ _ h4 X k Φ Wx C) (sub_assign h2 _) (noSole h1 _ _) ?_ (assign1 rfl _)
        rcases noStores (tg := .Subscript _ _ _) (by simp [isTupE]) X.env with e | ⟨_, _, e⟩
        · exact e
        · cases e
      · simp only [Bool.and_eq_true] at h
        obtain ⟨⟨h2, h3⟩, h4⟩ := h
        rw [v_dset]
        exact ss_dset (by have := C.room.un; omega) (iE _ _ _ h2 X k Φ Wx C) (iE _ _ _ h3 X k Φ Wx C) (iE _ _ _ h4 X k Φ Wx C) (noSwapS _ _)
      · simp only [Bool.and_eq_true, Bool.not_eq_true'] at h
        obtain ⟨⟨⟨h1, h2⟩, h3⟩, h4⟩ := h
        obtain ⟨g1, g2, g3⟩ := (sndG cl n).1 _ _ _ h3
        rw [v_asg]
        refine ss_asg (iE _ _ _ h4 X k Φ Wx C) (g3 X k Φ Wx C) (noSole h1 _ _) ?_ (assign1 g1 _)
        rcases noStores h2 X.env with e | ⟨es, p, e⟩
        · exact e
        · subst e
          rcases g2 with g2 | ⟨_, _, g2⟩
          · simp [isTupE] at g2
          · cases g2
      · simp only [Bool.and_eq_true, decide_eq_true_eq] at h
        obtain ⟨⟨h1, h2⟩, h3⟩ := h
        obtain ⟨s1, s2⟩ := C.sto h2
        rw [v_aug]
        exact ss_augAdd (C.N ▸ C.nd) (C.N ▸ h1) s1 (iE _ _ _ h3 X k Φ Wx C) s2
      · simp only [Bool.and_eq_true, decide_eq_true_eq] at h
        obtain ⟨⟨h1, h2⟩, h3⟩ := h
        obtain ⟨s1, s2⟩ := C.sto h2
        rw [v_aug]
        exact ss_augSub (C.N ▸ C.nd) (C.N ▸ h1) s1 (iE _ _ _ h3 X k Φ Wx C) s2
      · simp only [Bool.and_eq_true] at h
        obtain ⟨⟨⟨h1, h2⟩, h3⟩, h4⟩ := h
        rw [v_augS]
        exact ss_augSub1 ip_add (iE _ _ _ h2 X k Φ Wx C) (iE _ _ _ h3 X k Φ Wx C) (iE _ _ _ h4 X k Φ Wx C) augO_add (aug_store h1)
      · simp only [Bool.and_eq_true] at h
        obtain ⟨⟨⟨h1, h2⟩, h3⟩, h4⟩ := h
        rw [v_augS]
        exact ss_augSub1 ip_sub (iE _ _ _ h2 X k Φ Wx C) (iE _ _ _ h3 X k Φ Wx C) (iE _ _ _ h4 X k Φ Wx C) augO_sub (aug_store h1)
      · simp only [Bool.and_eq_true] at h
        obtain ⟨⟨⟨h1, h2⟩, h3⟩, h4⟩ := h
        rw [v_daug]
        exact ss_daug (by have := C.room.un; omega) in_add (fun _ _ _ _ q => ⟨_, _, rfl, rfl, q⟩) (iE _ _ _ h2 X k Φ Wx C) (iE _ _ _ h3 X k Φ Wx C) (iE _ _ _ h4 X k Φ Wx C) augO_add (aug_store h1)
      · simp only [Bool.and_eq_true] at h
        obtain ⟨⟨⟨h1, h2⟩, h3⟩, h4⟩ := h
        rw [v_daug]
        exact ss_daug (by have := C.room.un; omega) in_sub (fun _ _ _ _ q => ⟨_, _, rfl, rfl, q⟩) (iE _ _ _ h2 X k Φ Wx C) (iE _ _ _ h3 X k Φ Wx C) (iE _ _ _ h4 X k Φ Wx C) augO_sub (aug_store h1)
      · rw [v_bad]
        refine ⟨fun pins s σ H D I h => ?_⟩
        obtain ⟨m, ρ, h, rs, rh, z⟩ := h
        exact z.no
      · simp only [Bool.and_eq_true, decide_eq_true_eq] at h
        obtain ⟨⟨h1, h2⟩, h3⟩ := h
        obtain ⟨C0, c1, c2, c3⟩ := C.cls _ _ h1
        rw [v_rz]
        exact ss_rz C.calm C.tk (pmk_own PySem.F.excBase_ValueError c3.q c2 c3.k (raises_own c3.s c3.t) (C.gl h2) (okN_of h3).1) c1
      · simp only [Bool.and_eq_true, decide_eq_true_eq] at h
        obtain ⟨⟨⟨⟨⟨h0, h1⟩, h2⟩, h3⟩, h4⟩, h5⟩ := h
        obtain ⟨C0, c1, c2, c3⟩ := C.cls _ _ h1
        obtain ⟨st1, st2⟩ := C.stm h0
        rw [v_try]
        refine ss_try st1 st2 ⟨C.gl h2, (okN_of h3).1, .inl c2⟩ C.tk c1 c3.e (fun W pn xe t p => ?_) (fun a oe pn => ?_)
        · exact iSs _ _ _ h4 (X.tr pn xe) k Φ W ⟨C.N, C.nd, C.sc, C.kind, C.fn, C.calm, C.room, t, p, fun i x a h => ⟨(C.fns i x a h).ex, (C.fns i x a h).ln⟩, C.blt, C.lcm, C.gcd, C.cns, C.cls, C.stm, C.ist, C.sng⟩
        · exact sndHSs cl h5 (X := X.suite a ((a, oe) :: pn)) ⟨C.N, C.nd, C.sc, C.fn⟩
      · simp only [Bool.and_eq_true, decide_eq_true_eq] at h
        obtain ⟨⟨⟨⟨⟨⟨⟨h0, h1⟩, h2⟩, h3⟩, h3a⟩, h3b⟩, h4⟩, h5⟩ := h
        obtain ⟨C0, c1, c2, c3⟩ := C.cls _ _ h1
        obtain ⟨st1, st2⟩ := C.stm h0
        have lc := locB_of h3b.1
        rw [v_tryA]
        refine ss_tryA st1 st2 (C.N ▸ C.nd) (C.N ▸ h3a) (by show X.env.scope.names.lookup _ = _; rw [C.sc]; exact lc) ⟨C.gl h2, (okN_of h3).1, .inl c2⟩ C.tk c1 c3.e (fun W pn xe t p => ?_) (fun a oe pn hz hfs => ?_)
        · exact iSs _ _ _ h4 (X.tr pn xe) k Φ W ⟨C.N, C.nd, C.sc, C.kind, C.fn, C.calm, C.room, t, p, fun i x a h => ⟨(C.fns i x a h).ex, (C.fns i x a h).ln⟩, C.blt, C.lcm, C.gcd, C.cns, C.cls, C.stm, C.ist, C.sng⟩
        · exact sndXSs cl h5 (X := X.suite a ((a, oe) :: pn)) ⟨C.N, C.nd, C.sc, C.fn, ⟨oe, C0, by simp, c1, hz, hfs⟩, C.blt, C.ist, C.sng, fun _ => ⟨by have := C.room.dp; show X.A.depth + 3 * 0 + 5 < _; omega, by have := C.room.un; show X.A.units + 16 * 0 + 200 < _; omega⟩, h3a, lc, h3b.2⟩
      · simp only [Bool.and_eq_true] at h
        obtain ⟨⟨h1, h2⟩, h3⟩ := h
        rw [v_ifs]
        exact ss_if (iT _ _ _ h1 X k Φ Wx C) (iSs _ _ _ h2 X k Φ Wx C) (iSs _ _ _ h3 X k Φ Wx C)
      · simp only [Bool.and_eq_true] at h
        obtain ⟨⟨⟨h1, h2⟩, h3⟩, h4⟩ := h
        rw [v_for]
        exact ss_for C.pass C.calm (iI _ _ _ _ h2 X _ k Φ Wx (chkG_tup h1) C) (((sndG cl n).1 _ _ _ h1).2.2 X k Φ Wx C) (iSs _ _ _ h4 X k Φ Wx C) (folded h3 _)
      · simp only [Bool.and_eq_true] at h
        rw [v_whl]
        exact ss_while C.pass (iT _ _ _ h.1 X k Φ Wx C) (iSs _ _ _ h.2 X k Φ Wx C)
      · rw [v_ret]; exact ss_ret (iE _ _ _ h X k Φ Wx C)
      · rw [v_retN]; exact ss_retN
      · rw [v_brk]; exact ss_brk
      · rw [v_cont]; exact ss_cont
      · rw [v_pass]; exact ss_pass
      · rw [v_lckS]; exact ss_lck (iS _ _ _ h X k Φ Wx C)
      · cases h
    · unfold chkSs at h
      split at h
      · rw [vs_nil]; exact ss_nil
      · simp only [Bool.and_eq_true] at h
        rw [vs_cons]
        exact ss_cons (iS _ _ _ h.1 X k Φ Wx C) (iSs _ _ _ h.2 X k Φ Wx C)
      · cases h
end
end Ev

set_option Elab.async false
set_option linter.all false
set_option maxRecDepth 100000
set_option maxHeartbeats 4000000
/-! EvE: a def, a text of defs. -/
namespace Ev
open PySem PySem.Spec PyProof.Rows L2
section
variable {G : GX} {K : PySem.W.Frag} {m m' m2 : List Addr} {H H' : Hp} {h h' : Hw}
mutual
theorem Rep.blw : ∀ {w : W} {v : V}, Rep K H m w v → w.blw m.length
  | .non, _, _ => by unfold W.blw; trivial
  | .bl _, _, _ => by unfold W.blw; trivial
  | .int _, _, _ => by unfold W.blw; trivial
  | .str _, _, _ => by unfold W.blw; trivial
  | .tup xs, _, r => by
    unfold Rep at r
    obtain ⟨a, vs, e, s, q⟩ := r
    unfold W.blw; exact RepL.blw q
  | .fl xs, _, r => by
    unfold Rep at r
    obtain ⟨a, vs, e, s, q⟩ := r
    unfold W.blw; exact RepL.blw q
  | .ref n, _, r => by
    unfold Rep at r
    obtain ⟨a, e, q⟩ := r
    unfold W.blw; exact (List.getElem?_eq_some_iff.mp e).1
  | .rg _ _, _, _ => by unfold W.blw; trivial
theorem RepL.blw : ∀ {ws : List W} {vs : List V}, RepL K H m ws vs → W.blws m.length ws
  | [], _, _ => by unfold W.blws; trivial
  | w :: ws, _, r => by
    obtain ⟨v, q, rfl, r1, r2⟩ := r.uncons
    unfold W.blws; exact ⟨Rep.blw r1, RepL.blw r2⟩
end
mutual
theorem Rep.sub {n : Nat} (h1 : ∀ i, i < n → m2[i]? = m[i]?) (h2 : ∀ b ∈ m2, b ∈ m) : ∀ {w : W} {v : V}, Rep K H m w v → w.blw n → Rep K H m2 w v
  | .non, _, r, _ => by unfold Rep at r ⊢; exact r
  | .bl _, _, r, _ => by unfold Rep at r ⊢; exact r
  | .int _, _, r, _ => by unfold Rep at r ⊢; exact r
  | .str _, _, r, _ => by unfold Rep at r ⊢; exact r
  | .tup xs, _, r, b => by
    unfold Rep at r ⊢
    unfold W.blw at b
    obtain ⟨a, vs, e, s, q⟩ := r
    exact ⟨a, vs, e, s.elim (fun z => .inl ⟨z.1, fun y => z.2 (h2 _ y)⟩) .inr, RepL.sub h1 h2 q b⟩
  | .fl xs, _, r, b => by
    unfold Rep at r ⊢
    unfold W.blw at b
    obtain ⟨a, vs, e, s, q⟩ := r
    exact ⟨a, vs, e, s.elim (fun z => .inl ⟨z.1, fun y => z.2 (h2 _ y)⟩) .inr, RepL.sub h1 h2 q b⟩
  | .ref n, _, r, b => by
    unfold Rep at r ⊢
    unfold W.blw at b
    obtain ⟨a, e, q⟩ := r
    exact ⟨a, by rw [h1 _ b]; exact e, q⟩
  | .rg _ _, _, r, _ => by
    unfold Rep at r ⊢
    obtain ⟨a, e, q, n⟩ := r
    exact ⟨a, e, q, fun y => n (h2 _ y)⟩
theorem RepL.sub {n : Nat} (h1 : ∀ i, i < n → m2[i]? = m[i]?) (h2 : ∀ b ∈ m2, b ∈ m) : ∀ {ws : List W} {vs : List V}, RepL K H m ws vs → W.blws n ws → RepL K H m2 ws vs
  | [], _, r, _ => by unfold RepL at r ⊢; exact r
  | w :: ws, _, r, b => by
    obtain ⟨v, q, rfl, r1, r2⟩ := r.uncons
    unfold W.blws at b
    exact .cons (Rep.sub h1 h2 r1 b.1) (RepL.sub h1 h2 r2 b.2)
end
theorem old_blw (rh : RelH K m H h) (ok : OldOk h h') {i : Nat} {o : O} (hi : i < h.length) (e : h'[i]? = some o) : o.blw h.length := by
  rcases ok.2 i o hi e with q | q
  · obtain ⟨a, _, r⟩ := rh.at q
    cases o with
    | lst xs =>
      obtain ⟨vs, _, r⟩ := r
      have := r.blw
      rw [rh.len] at this
      exact this
    | dic _ _ =>
      obtain ⟨us, _, r, _⟩ := r
      have := r.blw
      rw [rh.len] at this
      exact this
    | dit _ _ =>
      obtain ⟨us, _, r, _⟩ := r
      have := r.blw
      rw [rh.len] at this
      exact this
  · exact q
theorem tidy_ok {w : W} {v : V} (rh : RelH K m H h) (n : Nx m H m' H') (rh' : RelH K m' H' h') (r : Rep K H' m' w v) :
    ∃ m2 w2 h2, tidy h w h' = .ok w2 h2 ∧ Nx m H m2 H' ∧ RelH K m2 H' h2 ∧ Rep K H' m2 w2 v := by
  have same : ∃ m2 w2 h2, (Res.ok w h' : Res W) = .ok w2 h2 ∧ Nx m H m2 H' ∧ RelH K m2 H' h2 ∧ Rep K H' m2 w2 v := ⟨m', w, h', rfl, n, rh', r⟩
  obtain ⟨t, rfl⟩ := n.pre
  have n0 : Nx m H m H' := ⟨⟨[], by simp⟩, n.fr, fun _ a b => absurd a b, n.kd, n.fz⟩
  have ix : ∀ i, i < h.length → m[i]? = (m ++ t)[i]? := fun i hi => by rw [List.getElem?_append_left (by rw [rh.len]; exact hi)]
  unfold tidy
  by_cases ok : OldOk h h'
  · rw [if_pos ok]
    have lt : (h'.take h.length).length = h.length := by rw [List.length_take]; exact Nat.min_eq_left ok.1
    have base : RelH K m H' (h'.take h.length) := by
      refine ⟨rh.nd, by rw [lt, rh.len], fun i a o e1 e2 => ?_⟩
      have hi : i < h.length := by rw [← rh.len]; exact (List.getElem?_eq_some_iff.mp e1).1
      rw [List.getElem?_take_of_lt hi] at e2
      have q := rh'.obj i a o (by rw [← ix i hi]; exact e1) e2
      have b := old_blw rh ok hi e2
      cases o with
      | lst xs =>
        obtain ⟨vs, f, r'⟩ := q
        exact ⟨vs, f, r'.sub (fun i hi => ix i hi) (fun b hb => List.mem_append_left _ hb) b⟩
      | dic _ _ =>
        obtain ⟨us, f, r', nd⟩ := q
        exact ⟨us, f, r'.sub (fun i hi => ix i hi) (fun b hb => List.mem_append_left _ hb) b, nd⟩
      | dit _ _ =>
        obtain ⟨us, f, r', nd⟩ := q
        exact ⟨us, f, r'.sub (fun i hi => ix i hi) (fun b hb => List.mem_append_left _ hb) b, nd⟩
    by_cases hb : w.blw h.length
    · rw [if_pos hb]
      exact ⟨m, w, _, rfl, n0, base, r.sub (fun i hi => ix i hi) (fun b hb => List.mem_append_left _ hb) hb⟩
    · rw [if_neg hb]
      cases w with
      | ref p =>
        dsimp only
        split
        · rename_i o ho
          split
          · rename_i hob
            obtain ⟨a, ea, rfl⟩ := (show ∃ a, (m ++ t)[p]? = some a ∧ v = .ref a by unfold Rep at r; exact r)
            have hp : ¬ p < h.length := hb
            have am : a ∉ m := fun z => by
              obtain ⟨j, hj, e⟩ := List.mem_iff_getElem.mp z
              have e2 : (m ++ t)[j]? = some a := by rw [List.getElem?_append_left hj, List.getElem?_eq_getElem hj, e]
              have := nodup_ix rh'.nd ea e2
              rw [rh.len] at hj
              omega
            have sub2 : ∀ b ∈ m ++ [a], b ∈ m ++ t := fun b hb => by
              rcases List.mem_append.mp hb with z | z
              · exact List.mem_append_left _ z
              · rw [List.mem_singleton.mp z]; exact List.mem_of_getElem? ea
            have ix2 : ∀ i, i < h.length → (m ++ [a])[i]? = (m ++ t)[i]? := fun i hi => by rw [List.getElem?_append_left (by rw [rh.len]; exact hi)]; exact ix i hi
            refine ⟨m ++ [a], .ref h.length, _, rfl, ⟨⟨[a], rfl⟩, n.fr, fun b hb hm => n.new b (sub2 b hb) hm, n.kd, n.fz⟩, ?_, by unfold Rep; exact ⟨a, by rw [← rh.len, List.getElem?_append_right (Nat.le_refl _)]; simp, rfl⟩⟩
            refine ⟨?_, by simp [lt, rh.len], fun i b u e1 e2 => ?_⟩
            · rw [List.nodup_append]
              refine ⟨rh.nd, by simp, fun b hb c hc => ?_⟩
              rw [List.mem_singleton.mp hc]
              exact fun z => am (z ▸ hb)
            · by_cases hl : i < h.length
              · rw [List.getElem?_append_left (by rw [lt]; exact hl), List.getElem?_take_of_lt hl] at e2
                have q := rh'.obj i b u (by rw [← ix2 i hl]; exact e1) e2
                have bb := old_blw rh ok hl e2
                cases u with
                | lst xs =>
                  obtain ⟨vs, f, r'⟩ := q
                  exact ⟨vs, f, r'.sub (fun i hi => ix2 i hi) sub2 bb⟩
                | dic _ _ =>
                  obtain ⟨us, f, r', nd⟩ := q
                  exact ⟨us, f, r'.sub (fun i hi => ix2 i hi) sub2 bb, nd⟩
                | dit _ _ =>
                  obtain ⟨us, f, r', nd⟩ := q
                  exact ⟨us, f, r'.sub (fun i hi => ix2 i hi) sub2 bb, nd⟩
              · have hi : i = h.length := by
                  have := (List.getElem?_eq_some_iff.mp e1).1
                  simp [rh.len] at this; omega
                subst hi
                rw [List.getElem?_append_right (by rw [lt]; exact Nat.le_refl _), lt, Nat.sub_self] at e2
                rw [← rh.len, List.getElem?_append_right (Nat.le_refl _), Nat.sub_self] at e1
                simp at e1 e2
                subst e1; subst e2
                have q := rh'.obj p a o ea ho
                cases o with
                | lst xs =>
                  obtain ⟨vs, f, r'⟩ := q
                  exact ⟨vs, f, r'.sub (fun i hi => ix2 i hi) sub2 hob⟩
                | dic _ _ =>
                  obtain ⟨us, f, r', nd⟩ := q
                  exact ⟨us, f, r'.sub (fun i hi => ix2 i hi) sub2 hob, nd⟩
                | dit _ _ =>
                  obtain ⟨us, f, r', nd⟩ := q
                  exact ⟨us, f, r'.sub (fun i hi => ix2 i hi) sub2 hob, nd⟩
          · exact same
        · exact same
      | _ => exact same
  · rw [if_neg ok]
    exact same
end

/-! ### a def of the text -/
/-- what the look asks of a def -/
structure DefOk (c : Cc) (d : Df) (ps : List Str) (body : List Stmt) : Prop where
  sc : FnScope c.N ps c.sc
  np : d.np = ps.length
  ns : d.ns = c.N.length
  fn : c.fn = fun _ => true
  chk : ∃ n, chkSs n c body d.body = true
section
variable {P : Program} {w : World} {K : PySem.W.Frag} {mg : Str → Option Value} {base : Heap} (cl : List Value)
/-- the def's names, functions and so on as they stand behind the top -/
structure TopOk (P : Program) (w : World) (cl : List Value) (K : PySem.W.Frag) (mg : Str → Option Value) (c : Cc) : Prop where
  blt : ∀ x : Str, c.blt.contains x = true → mg x = none
  lcm : c.mth.contains ("lcm" : Str) = true → mg "lcm" = some (.builtin "math.lcm")
  gcd : c.mth.contains ("gcd" : Str) = true → mg "gcd" = some (.builtin "math.gcd")
  cns : ∀ p ∈ c.cns, ∃ v, mg p.1 = some v ∧ ConV K p.2 v
  cls : ∀ (i : Nat) (x : Str), c.cls[i]? = some x → ∃ C : Addr, cl[i]? = some (.ref C) ∧ mg x = some (.ref C) ∧ ClsOk K C
  ist : ∀ p ∈ c.ist, IsF K mg cl p
  sng : ∀ base, ∀ p ∈ c.sng, SgF P w K mg base cl p
/-- as FnAt, of the parts alone -/
structure FnAt0 (P : Program) (w : World) (K : PySem.W.Frag) (mg : Str → Option Value) (base : Heap) (cl : List Value) (k : Nat) (φ : List W → Hw → Res W) (x : Str) (n : Nat) : Prop where
  ex : ∃ f fd ps, mg x = some (.ref f) ∧ PySem.W.keepIn K (.ref f) = true ∧ Binds K fd ps [] ∧ FnOk P w K mg base (L2.CX P w) k f fd ps (spF ⟨P, w, K, mg, base, cl⟩ φ n)
  ln : ∀ ws h, ws.length ≠ n → φ ws h = .err
theorem runDf_len {Φ : Fn} {d : Df} {ws : List W} {h : Hw} (hl : ws.length ≠ d.np) : runDf Φ d ws h = .err := by
  unfold runDf; rw [if_neg hl]
theorem def_ok {c : Cc} {d : Df} {ps : List Str} {x : Str} {params : Arguments} {body : List Stmt} {f : Addr} {fd : FuncData} {k : Nat} {Φ : Fn}
    (F : FunD K x x params body c.sc [] [] f fd) (D : DefOk c d ps body) (T : TopOk P w cl K mg c) (hf : ∀ (i : Nat) (y : Str) (a : Nat), c.fns[i]? = some (y, a) → FnAt0 P w K mg base cl k (Φ i) y a) :
    FnOk P w K mg base (L2.CX P w) (k + 1) f fd ps (spF ⟨P, w, K, mg, base, cl⟩ (runDf Φ d) d.np) := by
  refine F.ok D.sc (fun vs H Q E h => by rw [← D.np]; exact h.1) (fun cdv A outer s H vs Q E hr h => ?_)
  obtain ⟨n, hc⟩ := D.chk
  have tk : Takes (cxOf (L2.CX P w) P w K mg base c.N x c.sc f cdv A outer s H E) (fun cls d _ H => E cls d H) := takes_of rfl rfl rfl rfl
  have C : Ctx (cxOf (L2.CX P w) P w K mg base c.N x c.sc f cdv A outer s H E) cl c k Φ (fun cls d _ H => E cls d H) :=
    ⟨rfl, D.sc.nd, rfl, D.sc.kind, D.fn.symm, rfl, hr, tk, passes_of rfl, fun i y a e => ⟨(hf i y a e).ex, (hf i y a e).ln⟩, T.blt, T.lcm, T.gcd, T.cns, T.cls, fun _ => ⟨rfl, rfl⟩, T.ist, T.sng base⟩
  refine ⟨_, (sndS cl n).2 c body d.body hc _ k Φ _ C, ?_⟩
  obtain ⟨hl, m, h0, ws, rh, r, z⟩ := h
  have hlw : ws.length = d.np := by rw [r.len, hl]
  refine ⟨m, ws.map some ++ List.replicate (d.ns - d.np) none, h0, ?_, rh, ?_⟩
  · have := RepS.start (d.ns - d.np) r
    unfold L2.start
    rw [hl, ← D.ns]
    exact this
  · unfold runDf at z
    rw [if_pos hlw] at z
    cases e : evSs Φ d.body (ws.map some ++ List.replicate (d.ns - d.np) none) h0 with
    | ok q h' =>
      obtain ⟨fl, ρ'⟩ := q
      rw [e] at z
      cases fl with
      | next =>
        intro m' H' n rh' σ' _
        obtain ⟨m2, w2, h2, e2, n2, rh2, r2⟩ := tidy_ok (v := .non) rh n rh' (Rep.non' (G := ⟨P, w, K, mg, base, cl⟩))
        dsimp only at z
        rw [e2] at z
        exact z m2 H' _ n2 rh2 r2
      | brk => exact z.no
      | cont => exact z.no
      | ret u =>
        intro m' H' n rh' v rv
        obtain ⟨m2, w2, h2, e2, n2, rh2, r2⟩ := tidy_ok rh n rh' rv
        dsimp only at z
        rw [e2] at z
        exact z m2 H' _ n2 rh2 r2
      | rz x => exact fun m' H' n rh' σ' c d rs' rx => z m' H' c d n rh' rx
    | exc x h' => rw [e] at z; exact z.no
    | err => rw [e] at z; exact z.no
/-- all defs of the text, at every level -/
structure Txt (cl : List Value) (P : Program) (w : World) (K : PySem.W.Frag) (mg : Str → Option Value) (ds : List Df) (fns : List (Str × Nat)) : Prop where
  each : ∀ (i : Nat) (y : Str) (a : Nat), fns[i]? = some (y, a) → ∃ d c ps params body f fd, ds[i]? = some d ∧ d.np = a ∧ c.fns = fns ∧ FunD K y y params body c.sc [] [] f fd ∧ mg y = some (.ref f) ∧ Binds K fd ps [] ∧ DefOk c d ps body ∧ TopOk P w cl K mg c
theorem txt_ok {ds : List Df} {fns : List (Str × Nat)} (T : Txt cl P w K mg ds fns) : ∀ k (i : Nat) (y : Str) (a : Nat), fns[i]? = some (y, a) → FnAt0 P w K mg base cl k (PhiN ds k i) y a
  | 0, i, y, a, e => by
    obtain ⟨d, c, ps, params, body, f, fd, e1, rfl, rfl, F, g, b, D, To⟩ := T.each i y a e
    refine ⟨⟨f, fd, ps, g, F.kp, b, ⟨fun vs H Q E h => by rw [← D.np]; exact h.1, fun A outer s H args us vs Q E hr he hb hv hs => ?_⟩⟩, fun ws h hl => PhiN_z⟩
    obtain ⟨_, _, _, _, _, _, z⟩ := hs
    rw [PhiN_z] at z
    exact (show False from z).elim
  | k + 1, i, y, a, e => by
    have ih := txt_ok T k
    obtain ⟨d, c, ps, params, body, f, fd, e1, rfl, rfl, F, g, b, D, To⟩ := T.each i y a e
    have e2 : PhiN ds (k + 1) i = runDf (PhiN ds k) d := by
      funext vs h
      exact PhiN_s e1
    rw [e2]
    exact ⟨⟨f, fd, ps, g, F.kp, b, def_ok cl F D To ih⟩, fun ws h hl => runDf_len hl⟩
end
end Ev

set_option Elab.async false
set_option linter.all false
set_option maxRecDepth 100000
set_option maxHeartbeats 4000000
/-! EvF: the head by facts, the law's end. -/
namespace Ev
open PySem PySem.Spec PyProof.Rows L2 He

/-- what is looked at behind the top: the facts, the defs, one thing more -/
def hookE (n : Nat) (fa : List Fa) (fn : List DefD) (ex : PySem.W.Frag → Bool) : PySem.W.Hook where
  α := AlD × Bool
  obs := fun s => (obsDG n fa fn s.heap.get?, ex (frG s.heap.get? (asD s.heap.get? n)))
  val := fun _ => (valD fn, true)
  says := fun _ h => ∃ K : PySem.W.Frag, K.In h ∧ SaysD fa fn K ∧ ex K = true
  of := fun _ _ e => ⟨_, frG_in, congrArg (fun z : AlD × Bool => z.1) e, congrArg (fun z : AlD × Bool => z.2) e⟩
  keeps := fun _ _ _ ⟨K, hK, c⟩ k => ⟨K, PySem.W.Frag.In.keeps hK k, c⟩
def obE (n : Nat) (fa : List Fa) (fn : List DefD) (ex : PySem.W.Frag → Bool) (s : PySem.W.SharedT) : AlD × Bool :=
  (obsDG n fa fn (HandSHeadRun.getT s), ex (frG (HandSHeadRun.getT s) (asD (HandSHeadRun.getT s) n)))
theorem obE_eq (n : Nat) (fa : List Fa) (fn : List DefD) (ex : PySem.W.Frag → Bool) (s : PySem.W.SharedT) : obE n fa fn ex s = (hookE n fa fn ex).obs s.abs := by
  have e : HandSHeadRun.getT s = s.abs.heap.get? := funext (HandSHeadRun.getT_eq s)
  unfold obE hookE
  rw [e]

/-- a def of the text: its name, its place in the top, and what the look takes -/
structure Dd where
  y : Str
  i : Nat
  N : List Str
  ps : List Str
  d : Df
def stOf (P : Program) (i : Nat) : Stmt := P.main.body.getD i (.Pass ⟨0, 0, 0, 0⟩)
def fnsOf (rs : List Dd) : List (Str × Nat) := rs.map fun r => (r.y, r.ps.length)
def ccOf (P : Program) (rs : List Dd) (blt mth : List Str) (cns : List (Str × W)) (cls : List Str) (ist : List (Nat × Str × Bool)) (sng : List (Str × Nat × Bool)) (r : Dd) : Cc := ⟨r.N, defScope (stOf P r.i), fun _ => true, fnsOf rs, blt, mth, cns, cls, true, ist, sng⟩
def faOf (rs : List Dd) (blt : List Str) : List Fa := rs.map (fun r => Fa.glo r.y) ++ blt.map Fa.free
def fnOf (P : Program) (rs : List Dd) : List DefD := rs.map fun r => ⟨(r.y, none), r.y, r.y, defArgs (stOf P r.i), defBody (stOf P r.i), defScope (stOf P r.i), [], []⟩
def mthE (K : PySem.W.Frag) (x : Str) : Bool := decide (PySem.W.nsIn K mainGlobals x = some (some (.builtin (if x = ("lcm" : Str) then "math.lcm" else "math.gcd"))))
/-- a constant of the module -/
def cnsE (K : PySem.W.Frag) (p : Str × W) : Bool := match PySem.W.nsIn K mainGlobals p.1 with
  | some (some v) => conB 20 K p.2 v
  | _ => false
/-- a class of exceptions -/
def clsV (K : PySem.W.Frag) (x : Str) : Value := match PySem.W.nsIn K mainGlobals x with
  | some (some v) => v
  | _ => .none
def clsE (K : PySem.W.Frag) (x : Str) : Bool := match PySem.W.nsIn K mainGlobals x with
  | some (some (.ref C)) => PySem.W.excIn K C [.type "ValueError", .type "Exception", .type "BaseException", .type "object"] "ValueError.__new__" && PySem.W.keepIn K (.ref C) && (PySem.W.subIn K (.ref C) (.type "BaseException") == some true) && (PySem.W.typeIn K (.ref C) == some (.type "type")) && (PySem.W.exmOne K (.ref C) (.ref C) == some true)
  | _ => false
/-- as isinstance asks it -/
def excE (K : PySem.W.Frag) (D : Addr) : Bool := (PySem.W.findIn K (.ref D) "__getattribute__" == some (some (.builtin "BaseException.__getattribute__"))) && (PySem.W.findIn K (.ref D) "__getattr__" == some none) && (PySem.W.subIn K (.ref D) (.type "BaseException") == some true) && PySem.W.hasDictIn K D &&
  (PySem.W.findIn K (.ref D) "__class__" == some (some (.builtin "object.__class__"))) && (PySem.W.specialIn K (.builtin "object.__class__") "__get__" == some (some (.builtin "getset_descriptor.__get__"))) && (PySem.W.takesIn K (.builtin "object.__class__") == some true) && (PySem.W.mroIn K D (.type "object") == some true)
theorem excE_ok {K : PySem.W.Frag} {D : Addr} (h : excE K D = true) : ExcC K D := by
  unfold excE at h
  simp only [Bool.and_eq_true, beq_iff_eq] at h
  obtain ⟨⟨⟨⟨⟨⟨⟨h1, h2⟩, h3⟩, h4⟩, h5⟩, h6⟩, h7⟩, h8⟩ := h
  exact ⟨h1, h2, h3, h4, h5, h6, h7, h8⟩
def nmE (K : PySem.W.Frag) (blt : List Str) (D : Addr) (y : Str) (b : Bool) : Bool := match PySem.W.nsIn K mainGlobals y with
  | some (some (.ref C)) => PySem.W.kitOne K (.ref D) (.ref C) == some b
  | _ => match bootBuiltins y with
    | some (.type T) => blt.contains y && !(y == ("__name__" : Str)) && (PySem.W.kitOne K (.ref D) (.type T) == some b)
    | _ => false
def istE (K : PySem.W.Frag) (blt cls : List Str) (p : Nat × Str × Bool) : Bool := match cls[p.1]? with
  | some x => (match clsV K x with
    | .ref D => excE K D && nmE K blt D p.2.1 p.2.2
    | _ => false)
  | none => false
theorem istE_ok {K : PySem.W.Frag} {blt cls : List Str} {p : Nat × Str × Bool} {mg : Str → Option Value} {h : Heap} (X : K.In h) (G : h.Ns mainGlobals mg) (free : ∀ x : Str, blt.contains x = true → mg x = none) (e : istE K blt cls p = true) : IsF K mg (cls.map (clsV K)) p := by
  unfold istE at e
  split at e
  · rename_i x hx
    split at e
    · rename_i D hD
      rw [Bool.and_eq_true] at e
      have c1 : (cls.map (clsV K))[p.1]? = some (.ref D) := by rw [List.getElem?_map, hx]; exact congrArg some hD
      have e2 := e.2
      unfold nmE at e2
      split at e2
      · rename_i C hC
        exact ⟨D, .ref C, .ref C, c1, excE_ok e.1, .own (PySem.W.mg_of X G hC), beq_iff_eq.mp e2⟩
      · split at e2
        · rename_i T hT
          simp only [Bool.and_eq_true, Bool.not_eq_true'] at e2
          exact ⟨D, .ty T, .type T, c1, excE_ok e.1, .blt (free _ e2.1.1) hT (fun z => by rw [z] at e2; cases e2.1.2), beq_iff_eq.mp e2.2⟩
        · cases e2
    · cases e
  · cases e
def exOf (mth : List Str) (cns : List (Str × W)) (cls : List Str) (blt : List Str) (ist : List (Nat × Str × Bool)) (K : PySem.W.Frag) : Bool := mth.all (mthE K) && cns.all (cnsE K) && (cls.all (clsE K) && ist.all (istE K blt cls))
theorem clsE_ok {K : PySem.W.Frag} {x : Str} (h : clsE K x = true) : ∃ C : Addr, PySem.W.nsIn K mainGlobals x = some (some (.ref C)) ∧ clsV K x = .ref C ∧ ClsOk K C := by
  unfold clsE at h
  split at h
  · rename_i C e
    simp only [Bool.and_eq_true, beq_iff_eq] at h
    obtain ⟨⟨⟨⟨h1, h2⟩, h3⟩, h4⟩, h5⟩ := h
    exact ⟨C, e, by unfold clsV; rw [e], ⟨h1, h2, h3, h4, h5⟩⟩
  · cases h
/-- what a def must be, in one row each -/
structure DdOk (P : Program) (rs : List Dd) (blt mth : List Str) (cns : List (Str × W)) (cls : List Str) (ist : List (Nat × Str × Bool)) (sng : List (Str × Nat × Bool)) (r : Dd) : Prop where
  sc : FnScope r.N r.ps (defScope (stOf P r.i))
  np : r.d.np = r.ps.length
  ns : r.d.ns = r.N.length
  chk : chkSs 100 (ccOf P rs blt mth cns cls ist sng r) (defBody (stOf P r.i)) r.d.body = true
  bind : ∀ (kV doc pm : Value) (an : Option Addr) (cdv ct : Value) (us : List Value), us.length = r.ps.length → bindArgs (PySem.W.fnOf r.y r.y (defArgs (stOf P r.i)) (defBody (stOf P r.i)) (defScope (stOf P r.i)) .none kV doc pm an cdv ct) ⟨us, []⟩ = pure (r.ps.zip us)
section
variable {P : Program} {w : World} {K : PySem.W.Frag} {mg : Str → Option Value} {h : Heap} {rs : List Dd} {blt mth : List Str} {cns : List (Str × W)} {cls : List Str} {ist : List (Nat × Str × Bool)} {sng : List (Str × Nat × Bool)}
theorem cls_of (X : K.In h) (G : h.Ns mainGlobals mg) (ex : exOf mth cns cls blt ist K = true) (i : Nat) (x : Str) (e : cls[i]? = some x) : ∃ C : Addr, (cls.map (clsV K))[i]? = some (.ref C) ∧ mg x = some (.ref C) ∧ ClsOk K C := by
  obtain ⟨C, c1, c2, c3⟩ := clsE_ok (List.all_eq_true.mp (Bool.and_eq_true_iff.mp (Bool.and_eq_true_iff.mp ex).2).1 x (List.mem_of_getElem? e))
  exact ⟨C, by rw [List.getElem?_map, e]; exact congrArg some c2, PySem.W.mg_of X G c1, c3⟩
theorem ist_of (X : K.In h) (G : h.Ns mainGlobals mg) (c : SaysD (faOf rs blt) (fnOf P rs) K) (ex : exOf mth cns cls blt ist K = true) : ∀ p ∈ ist, IsF K mg (cls.map (clsV K)) p := fun p hp =>
  istE_ok X G (fun x hx => free_ok X G (c.facts (List.mem_append_right _ (List.mem_map.mpr ⟨x, by simpa using hx, rfl⟩)))) (List.all_eq_true.mp (Bool.and_eq_true_iff.mp (Bool.and_eq_true_iff.mp ex).2).2 p hp)
theorem sng_of (ok : ∀ r ∈ rs, DdOk P rs blt mth cns cls ist sng r) (hsg : ∀ p ∈ sng, ∃ r ∈ rs, r.y = p.1 ∧ r.ps.length = 1 ∧ sngB { ccOf P rs blt mth cns cls ist sng r with sng := [] } p.2.1 (defBody (stOf P r.i)) = some p.2.2) (X : K.In h) (G : h.Ns mainGlobals mg) (c : SaysD (faOf rs blt) (fnOf P rs) K) (ex : exOf mth cns cls blt ist K = true) (base : Heap) : ∀ p ∈ sng, SgF P w K mg base (cls.map (clsV K)) p := by
  intro p hp
  obtain ⟨r, hr, hy, hl, hs⟩ := hsg p hp
  obtain ⟨i, hi⟩ := List.getElem?_of_mem hr
  have D := ok r hr
  obtain ⟨fd, F⟩ := c.def_ i (d := ⟨(r.y, none), r.y, r.y, defArgs (stOf P r.i), defBody (stOf P r.i), defScope (stOf P r.i), [], []⟩) (by unfold fnOf; rw [List.getElem?_map, hi]; rfl)
  have F' : FunD K r.y r.y (defArgs (stOf P r.i)) (defBody (stOf P r.i)) (defScope (stOf P r.i)) [] [] (ga K r.y) fd := F
  obtain ⟨e0, he0⟩ : ∃ e0, r.ps = [e0] := by
    match r.ps, hl with
    | [x], _ => exact ⟨x, rfl⟩
  have hb := F'.bindsN D.bind
  have hsc := D.sc
  rw [he0] at hb hsc
  have z := sg_ok (P := P) (w := w) (base := base) (mg := mg) (cl := cls.map (clsV K)) (c := { ccOf P rs blt mth cns cls ist sng r with sng := [] }) (i := p.2.1) (b := p.2.2) F' hsc hb (glo_ok X G (c.facts (List.mem_append_left _ (List.mem_map.mpr ⟨r, hr, rfl⟩)))) rfl rfl hs (ist_of X G c ex)
    (fun x hx => free_ok X G (c.facts (List.mem_append_right _ (List.mem_map.mpr ⟨x, by have hx : blt.contains x = true := hx; simpa using hx, rfl⟩))))
  rw [hy] at z
  exact z
theorem txt_of (ok : ∀ r ∈ rs, DdOk P rs blt mth cns cls ist sng r) (hsg : ∀ p ∈ sng, ∃ r ∈ rs, r.y = p.1 ∧ r.ps.length = 1 ∧ sngB { ccOf P rs blt mth cns cls ist sng r with sng := [] } p.2.1 (defBody (stOf P r.i)) = some p.2.2) (X : K.In h) (G : h.Ns mainGlobals mg) (c : SaysD (faOf rs blt) (fnOf P rs) K) (ex : exOf mth cns cls blt ist K = true) : Txt (cls.map (clsV K)) P w K mg (rs.map (·.d)) (fnsOf rs) := by
  refine ⟨fun i y a e => ?_⟩
  unfold fnsOf at e
  rw [List.getElem?_map] at e
  cases er : rs[i]? with
  | none => rw [er] at e; cases e
  | some r =>
    rw [er] at e
    cases e
    have hr := List.mem_of_getElem? er
    have D := ok r hr
    obtain ⟨fd, F⟩ := c.def_ i (d := ⟨(r.y, none), r.y, r.y, defArgs (stOf P r.i), defBody (stOf P r.i), defScope (stOf P r.i), [], []⟩) (by unfold fnOf; rw [List.getElem?_map, er]; rfl)
    have F' : FunD K r.y r.y (defArgs (stOf P r.i)) (defBody (stOf P r.i)) (defScope (stOf P r.i)) [] [] (ga K r.y) fd := F
    refine ⟨r.d, ccOf P rs blt mth cns cls ist sng r, r.ps, defArgs (stOf P r.i), defBody (stOf P r.i), ga K r.y, fd, by rw [List.getElem?_map, er]; rfl, D.np, rfl, F', ?_, F'.bindsN D.bind, ⟨D.sc, D.np, D.ns, rfl, 100, D.chk⟩, ?_⟩
    · exact glo_ok X G (c.facts (List.mem_append_left _ (List.mem_map.mpr ⟨r, hr, rfl⟩)))
    · have free : ∀ x : Str, blt.contains x = true → mg x = none := fun x hx =>
        free_ok X G (c.facts (List.mem_append_right _ (List.mem_map.mpr ⟨x, by simpa using hx, rfl⟩)))
      have mt : ∀ x : Str, mth.contains x = true → mg x = some (.builtin (if x = ("lcm" : Str) then "math.lcm" else "math.gcd")) := fun x hx => by
        have := List.all_eq_true.mp (Bool.and_eq_true_iff.mp (Bool.and_eq_true_iff.mp ex).1).1 x (by simpa using hx)
        exact PySem.W.mg_of X G (of_decide_eq_true this)
      have cn : ∀ p ∈ cns, ∃ v, mg p.1 = some v ∧ ConV K p.2 v := fun p hp => by
        have z := List.all_eq_true.mp (Bool.and_eq_true_iff.mp (Bool.and_eq_true_iff.mp ex).1).2 p hp
        unfold cnsE at z
        split at z
        · rename_i v hv
          exact ⟨v, PySem.W.mg_of X G hv, conB_ok _ _ _ z⟩
        · cases z
      refine ⟨free, fun hx => ?_, fun hx => ?_, cn, fun i x e => cls_of X G ex i x e, ist_of X G c ex, fun base => sng_of ok hsg X G c ex base⟩
      · have := mt _ hx
        rw [if_pos rfl] at this
        exact this
      · have := mt _ hx
        rw [if_neg (by decide +kernel)] at this
        exact this
/-- the law's own call -/
theorem law_sp {G : GX} {φ : List W → Hw → Res W} {n : Nat} (hl : ∀ ns : List Int, ns.length ≤ n → ∃ h', φ [.fl (ns.map .int)] [] = .ok (.bl true) h') (H : Hp) (a : Addr) (ns : List Int) (hn : ns.length ≤ n) (hO : Only H) (hS : SqL G.K H a (ns.map V.int)) :
    spF G φ 1 [.ref a] H (fun v _ => v = .bl true) fun _ _ _ => False := by
  have st : StL G.K H [] a (ns.map V.int) := by
    rcases hS with (r | ⟨o, r⟩) | r
    · rcases hO a with z | ⟨o, xs, z⟩
      · rw [r] at z; cases z
      · rw [r] at z; cases z
    · exact .inl ⟨⟨o, r⟩, by simp⟩
    · exact .inr r
  obtain ⟨h', e⟩ := hl ns hn
  refine ⟨rfl, [], [], [.fl (ns.map .int)], ⟨List.nodup_nil, rfl, fun _ _ _ e _ => by simp at e⟩, .cons (by unfold Rep; exact ⟨a, _, rfl, st, repL_ints (G := G) ns⟩) .nil, ?_⟩
  rw [e]
  exact fun m' H' b _ _ r => r.bl_of
end
/-- the walk of a law: li its place in the text -/
theorem walk_ev {l : PySem.W.OpenLaw} {n k li : Nat} {q : Program} {loose : List Str} {XP : (Str → Option Value) → Heap → Prop} {d : DefRec} {rs : List Dd} {blt mth : List Str} {cns : List (Str × W)} {cls : List Str} {ist : List (Nat × Str × Bool)} {sng : List (Str × Nat × Bool)} {nn : Nat} {r : Dd}
    (hn : l.most = some n) (hn2 : n ≤ sizeLine) (hdf : d.params.defaults = []) (hr : Room (k + 1) callerA) (hd : d.name = r.y) (ok : ∀ r ∈ rs, DdOk l.prog rs blt mth cns cls ist sng r) (hsg : ∀ p ∈ sng, ∃ r ∈ rs, r.y = p.1 ∧ r.ps.length = 1 ∧ sngB { ccOf l.prog rs blt mth cns cls ist sng r with sng := [] } p.2.1 (defBody (stOf l.prog r.i)) = some p.2.2) (hli : rs[li]? = some r) (hps : r.ps.length = 1)
    (hlaw : ∀ ns : List Int, ns.length ≤ n → ∃ h', PhiN (rs.map (·.d)) (k + 1) li [.fl (ns.map .int)] [] = .ok (.bl true) h') :
    PySem.W.WalkO q loose XP (hookE nn (faOf rs blt) (fnOf l.prog rs) (exOf mth cns cls blt ist)).says l.row.toRowW d [] (fun f vs => PySem.call f vs) := by
  refine Att.attach_call hn hdf fun w s₀ s₁ mg mb fa o pm cd doc a vs ns G Y ho hd' hcd hmg hobj hints hlen hg => ?_
  obtain ⟨K, KX, c, ex⟩ := Y
  have T : Txt (cls.map (clsV K)) l.prog w K mg (rs.map (·.d)) (fnsOf rs) := txt_of ok hsg KX G.T.g c ex
  have hy : (fnsOf rs)[li]? = some (r.y, 1) := by unfold fnsOf; rw [List.getElem?_map, hli]; show some (r.y, r.ps.length) = _; rw [hps]
  have hrm := List.mem_of_getElem? hli
  have D := ok r hrm
  obtain ⟨fd, F⟩ := c.def_ li (d := ⟨(r.y, none), r.y, r.y, defArgs (stOf l.prog r.i), defBody (stOf l.prog r.i), defScope (stOf l.prog r.i), [], []⟩) (by unfold fnOf; rw [List.getElem?_map, hli]; rfl)
  have F' : FunD K r.y r.y (defArgs (stOf l.prog r.i)) (defBody (stOf l.prog r.i)) (defScope (stOf l.prog r.i)) [] [] (ga K r.y) fd := F
  have hfa : fa = ga K r.y := by
    have e1 := glo_ok KX G.T.g (c.facts (List.mem_append_left _ (List.mem_map.mpr ⟨r, hrm, rfl⟩)))
    rw [hd] at hmg
    rw [hmg] at e1
    cases e1; rfl
  subst hfa
  obtain ⟨x, hx⟩ : ∃ x, r.ps = [x] := by
    match r.ps, hps with
    | [x], _ => exact ⟨x, rfl⟩
  refine law_call (P := l.prog) (w := w) (CX := L2.CX l.prog w) (k := k + 1) (fd := fd) (x := x) (sp := spF ⟨l.prog, w, K, mg, s₁.heap, cls.map (clsV K)⟩ (PhiN (rs.map (·.d)) (k + 1) li) 1) KX G.T.g G.T.b G.T.builtins G.T.nolimit hg hobj hints (Nat.le_trans hlen hn2) hr ?_ ?_ (fun H hO hS => law_sp (G := ⟨l.prog, w, K, mg, s₁.heap, cls.map (clsV K)⟩) hlaw H a ns hlen hO hS) ?_
  · intro base hb1 hb2
    have D2 : DefOk (ccOf l.prog rs blt mth cns cls ist sng r) r.d r.ps (defBody (stOf l.prog r.i)) := ⟨D.sc, D.np, D.ns, rfl, 100, D.chk⟩
    have free : ∀ x : Str, blt.contains x = true → mg x = none := fun x hx =>
      free_ok KX G.T.g (c.facts (List.mem_append_right _ (List.mem_map.mpr ⟨x, by simpa using hx, rfl⟩)))
    have mt : ∀ x : Str, mth.contains x = true → mg x = some (.builtin (if x = ("lcm" : Str) then "math.lcm" else "math.gcd")) := fun x hx => by
      have := List.all_eq_true.mp (Bool.and_eq_true_iff.mp (Bool.and_eq_true_iff.mp ex).1).1 x (by simpa using hx)
      exact PySem.W.mg_of KX G.T.g (of_decide_eq_true this)
    have cn : ∀ p ∈ cns, ∃ v, mg p.1 = some v ∧ ConV K p.2 v := fun p hp => by
      have z := List.all_eq_true.mp (Bool.and_eq_true_iff.mp (Bool.and_eq_true_iff.mp ex).1).2 p hp
      unfold cnsE at z
      split at z
      · rename_i v hv
        exact ⟨v, PySem.W.mg_of KX G.T.g hv, conB_ok _ _ _ z⟩
      · cases z
    have To : TopOk l.prog w (cls.map (clsV K)) K mg (ccOf l.prog rs blt mth cns cls ist sng r) := ⟨free, fun hx => by have := mt _ hx; rw [if_pos rfl] at this; exact this, fun hx => by have := mt _ hx; rw [if_neg (by decide +kernel)] at this; exact this, cn, fun i x e => cls_of KX G.T.g ex i x e, ist_of KX G.T.g c ex, fun base => sng_of ok hsg KX G.T.g c ex base⟩
    have e2 : PhiN (rs.map fun r : Dd => r.d) (k + 1) li = runDf (PhiN (rs.map fun r : Dd => r.d) k) r.d := by
      funext vs h
      exact PhiN_s (by rw [List.getElem?_map, hli]; rfl)
    have z := def_ok (P := l.prog) (w := w) (base := base) (cls.map (clsV K)) F' D2 To (Φ := PhiN (rs.map (·.d)) k) (k := k) (fun i y a e => txt_ok _ T k i y a e)
    rw [← e2, show r.d.np = 1 by rw [D.np, hps], hx] at z
    exact z
  · intro s u
    have b := FunD.bindsA (ps := r.ps) F' D.bind s [u] (by rw [hps]; rfl)
    rw [hx] at b
    exact b
  · intro H e s' hc
    obtain ⟨_, _, _, _, _, _, _, _, _, _, _, _, z⟩ := hc
    exact z.elim
end Ev

/-! The text of the law in the small language, printed by gen.py. -/
namespace Law
open PySem Ev
/-! least_point(curve, x); names 0:curve 1:x 2:point 3:step 4:rounds 5:level 6:transient 7:period -/
def b_least_point_1 : ISs := .cons (.aug 2 .add (.cst (.int 1))) (.cons (.aug 5 .add (.var 3)) (.cons (.ifs (.val (.cmp .ge (.var 5) (.var 1))) (.cons (.ret (.var 2)) (.nil)) (.nil)) (.nil)))
def b_least_point_2 : ISs := .cons (.aug 2 .add (.cst (.int 1))) (.cons (.aug 5 .add (.var 3)) (.cons (.ifs (.val (.cmp .ge (.var 5) (.var 1))) (.cons (.brk) (.nil)) (.nil)) (.nil)))
def s_least_point : ISs := .cons (.asg (.tup [(.var 5), (.var 6), (.var 7)]) (.var 0)) (.cons (.ifs (.val (.cmp .ge (.var 5) (.var 1))) (.cons (.ret (.cst (.int 0))) (.nil)) (.nil)) (.cons (.asg (.var 2) (.cst (.int 0))) (.cons (.for (.var 3) (.of (.of (.var 6))) b_least_point_1) (.cons (.asg (.var 4) (.bin .fdiv (.bin .sub (.bin .sub (.var 1) (.var 5)) (.cst (.int 1))) (.bl .sum (.of (.var 7))))) (.cons (.aug 5 .add (.bin .mul (.var 4) (.bl .sum (.of (.var 7))))) (.cons (.aug 2 .add (.bin .mul (.var 4) (.bl .len (.of (.var 7))))) (.cons (.for (.var 3) (.of (.of (.var 7))) b_least_point_2) (.cons (.ret (.var 2)) (.nil)))))))))
def d_least_point : Df := ⟨2, 8, s_least_point⟩
/-! greatest_point(curve, x); names 0:curve 1:x -/
def s_greatest_point : ISs := .cons (.ret (.bin .sub (.call 0 (.cons (.var 0) (.cons (.bin .add (.var 1) (.cst (.int 1))) (.nil)))) (.cst (.int 1)))) (.nil)
def d_greatest_point : Df := ⟨2, 2, s_greatest_point⟩
/-! is_unbounded(curve); names 0:curve -/
def s_is_unbounded : ISs := .cons (.ret (.cmp .gt (.bl .sum (.of (.idx (.var 0) (.cst (.int 2))))) (.cst (.int 0)))) (.nil)
def d_is_unbounded : Df := ⟨1, 1, s_is_unbounded⟩
/-! lower_at(curve, x); names 0:curve 1:x -/
def s_lower_at : ISs := .cons (.expr (.call 5 (.cons (.var 0) (.nil)))) (.cons (.ret (.call 0 (.cons (.var 0) (.cons (.var 1) (.nil))))) (.nil))
def d_lower_at : Df := ⟨2, 2, s_lower_at⟩
/-! upper_at(curve, x); names 0:curve 1:x -/
def s_upper_at : ISs := .cons (.expr (.call 5 (.cons (.var 0) (.nil)))) (.cons (.ifs (.val (.cmp .lt (.var 1) (.idx (.var 0) (.cst (.int 0))))) (.cons (.ret (.cst .non)) (.nil)) (.nil)) (.cons (.ret (.call 1 (.cons (.var 0) (.cons (.var 1) (.nil))))) (.nil)))
def d_upper_at : Df := ⟨2, 2, s_upper_at⟩
/-! _check_unbounded(curve); names 0:curve -/
def s__check_unbounded : ISs := .cons (.ifs (.not (.val (.call 2 (.cons (.var 0) (.nil))))) (.cons (.rz 0) (.nil)) (.nil)) (.nil)
def d__check_unbounded : Df := ⟨1, 1, s__check_unbounded⟩
/-! _law_tape(script); names 0:script 1:mixed 2:cell -/
def b__law_tape_1 : ISs := .cons (.asg (.var 1) (.bin .mod (.bi .toInt (.cons (.bin .add (.bin .mul (.var 1) (.cst (.int 31))) (.bi .abs (.cons (.bi .toInt (.cons (.var 2) (.nil))) (.nil)))) (.nil))) (.cst (.int 2147483647)))) (.nil)
def s__law_tape : ISs := .cons (.asg (.var 1) (.cst (.int 7))) (.cons (.for (.var 2) (.of (.of (.var 0))) b__law_tape_1) (.cons (.ret (.lst (.cons (.bl .list (.of (.var 0))) (.cons (.cst (.int 0)) (.cons (.cst (.int 0)) (.cons (.var 1) (.nil))))))) (.nil)))
def d__law_tape : Df := ⟨1, 3, s__law_tape⟩
/-! _law_draw(tape, many); names 0:tape 1:many 2:number 3:place -/
def s__law_draw : ISs := .cons (.ifs (.val (.cmp .eq (.idx (.var 0) (.cst (.int 2))) (.cst (.int 0)))) (.cons (.asg (.var 3) (.idx (.var 0) (.cst (.int 1)))) (.cons (.asg (.var 2) (.cst (.int 0))) (.cons (.ifs (.val (.cmp .lt (.var 3) (.bl .len (.of (.idx (.var 0) (.cst (.int 0))))))) (.cons (.asg (.var 2) (.bi .abs (.cons (.bi .toInt (.cons (.idx (.idx (.var 0) (.cst (.int 0))) (.var 3)) (.nil))) (.nil)))) (.nil)) (.cons (.set (.var 0) (.cst (.int 3)) (.bin .mod (.bi .toInt (.cons (.bin .add (.bin .add (.bin .mul (.idx (.var 0) (.cst (.int 3))) (.cst (.int 48271))) (.var 3)) (.cst (.int 1))) (.nil))) (.cst (.int 2147483647)))) (.cons (.asg (.var 2) (.idx (.var 0) (.cst (.int 3)))) (.nil)))) (.cons (.set (.var 0) (.cst (.int 1)) (.bin .add (.var 3) (.cst (.int 1)))) (.cons (.ifs (.val (.cmp .lt (.var 2) (.bin .pow (.cst (.int 10)) (.cst (.int 18))))) (.cons (.asg (.var 2) (.bin .mod (.bi .toInt (.cons (.bin .add (.bin .add (.bin .mul (.var 2) (.cst (.int 48271))) (.bin .mul (.var 3) (.cst (.int 69621)))) (.cst (.int 5))) (.nil))) (.cst (.int 2147483647)))) (.cons (.asg (.var 2) (.bin .mod (.bi .toInt (.cons (.bin .mul (.var 2) (.cst (.int 69621))) (.nil))) (.cst (.int 2147483629)))) (.cons (.ret (.bin .mod (.bi .toInt (.cons (.var 2) (.nil))) (.bi .max2 (.cons (.var 1) (.cons (.cst (.int 1)) (.nil)))))) (.nil)))) (.nil)) (.cons (.set (.var 0) (.cst (.int 2)) (.var 2)) (.nil))))))) (.nil)) (.cons (.asg (.var 2) (.idx (.var 0) (.cst (.int 2)))) (.cons (.set (.var 0) (.cst (.int 2)) (.bin .fdiv (.var 2) (.bi .max2 (.cons (.var 1) (.cons (.cst (.int 2)) (.nil)))))) (.cons (.ret (.bin .mod (.bi .toInt (.cons (.var 2) (.nil))) (.bi .max2 (.cons (.var 1) (.cons (.cst (.int 1)) (.nil)))))) (.nil))))
def d__law_draw : Df := ⟨2, 4, s__law_draw⟩
/-! _law_point(tape); names 0:tape -/
def s__law_point : ISs := .cons (.ret (.call 7 (.cons (.var 0) (.cons (.idx (.lst (.cons (.cst (.int 30)) (.cons (.cst (.int 1000)) (.cons (.bin .pow (.cst (.int 10)) (.cst (.int 9))) (.cons (.bin .pow (.cst (.int 10)) (.cst (.int 30))) (.nil)))))) (.call 7 (.cons (.var 0) (.cons (.cst (.int 4)) (.nil))))) (.nil))))) (.nil)
def d__law_point : Df := ⟨1, 1, s__law_point⟩
/-! _law_whole(told); names 0:told -/
def s__law_whole : ISs := .cons (.ret (.and (.bi (.isI .int) (.cons (.var 0) .nil)) (.not (.val (.bi (.isI .bool) (.cons (.var 0) .nil)))))) (.nil)
def d__law_whole : Df := ⟨1, 1, s__law_whole⟩
/-! _law_single(e); names 0:e 1:found -/
def s__law_single : ISs := .cons (.bad) (.cons (.bad) (.cons (.bad) (.cons (.bad) (.nil))))
def d__law_single : Df := ⟨1, 2, s__law_single⟩
/-! _law_at(curve, x); names 0:curve 1:x 2:head 3:rest 4:size -/
def s__law_at : ISs := .cons (.asg (.var 2) (.idx (.var 0) (.cst (.int 1)))) (.cons (.ifs (.val (.cmp .le (.var 1) (.bl .len (.of (.var 2))))) (.cons (.ret (.bin .add (.idx (.var 0) (.cst (.int 0))) (.bl .sum (.of (.slc (.var 2) .no (.at (.var 1))))))) (.nil)) (.nil)) (.cons (.asg (.var 3) (.bin .sub (.var 1) (.bl .len (.of (.var 2))))) (.cons (.asg (.var 4) (.bl .len (.of (.idx (.var 0) (.cst (.int 2)))))) (.cons (.ret (.bin .add (.bin .add (.bin .add (.idx (.var 0) (.cst (.int 0))) (.bl .sum (.of (.var 2)))) (.bin .mul (.bin .fdiv (.var 3) (.var 4)) (.bl .sum (.of (.idx (.var 0) (.cst (.int 2))))))) (.bl .sum (.of (.slc (.idx (.var 0) (.cst (.int 2))) .no (.at (.bin .mod (.bi .toInt (.cons (.var 3) (.nil))) (.var 4)))))))) (.nil)))))
def d__law_at : Df := ⟨2, 5, s__law_at⟩
/-! _law_rise(tape, top); names 0:tape 1:top 2:kind -/
def s__law_rise : ISs := .cons (.asg (.var 2) (.call 7 (.cons (.var 0) (.cons (.cst (.int 8)) (.nil))))) (.cons (.ifs (.val (.cmp .lt (.var 2) (.cst (.int 6)))) (.cons (.ret (.bi .min2 (.cons (.idx (.lst (.cons (.cst (.int 0)) (.cons (.cst (.int 0)) (.cons (.cst (.int 0)) (.cons (.cst (.int 1)) (.cons (.cst (.int 1)) (.cons (.cst (.int 2)) (.nil)))))))) (.var 2)) (.cons (.var 1) (.nil))))) (.nil)) (.nil)) (.cons (.ret (.call 7 (.cons (.var 0) (.cons (.bin .add (.var 1) (.cst (.int 1))) (.nil))))) (.nil)))
def d__law_rise : Df := ⟨2, 3, s__law_rise⟩
/-! _law_longer(tape, head, turn); names 0:tape 1:head 2:turn 3:k -/
def b__law_longer_1 : ISs := .cons (.ifs (.val (.cmp .lt (.bl .len (.of (.var 1))) (.cst (.int 4)))) (.cons (.expr (.mt .append (.var 1) (.cons (.idx (.var 2) (.cst (.int 0))) (.nil)))) (.cons (.asg (.var 2) (.bin .add (.slc (.var 2) (.at (.cst (.int 1))) .no) (.slc (.var 2) .no (.at (.cst (.int 1)))))) (.nil))) (.nil)) (.nil)
def s__law_longer : ISs := .cons (.asg (.var 1) (.bl .list (.of (.var 1)))) (.cons (.asg (.var 2) (.bl .list (.of (.var 2)))) (.cons (.for (.var 3) (.rng1 (.call 7 (.cons (.var 0) (.cons (.cst (.int 5)) (.nil))))) b__law_longer_1) (.cons (.ret (.tup (.cons (.bl .tuple (.of (.var 1))) (.cons (.bl .tuple (.of (.bin .mul (.var 2) (.idx (.lst (.cons (.cst (.int 1)) (.cons (.bin .fdiv (.cst (.int 4)) (.bl .len (.of (.var 2)))) (.nil)))) (.call 7 (.cons (.var 0) (.cons (.cst (.int 2)) (.nil)))))))) (.nil))))) (.nil))))
def d__law_longer : Df := ⟨3, 4, s__law_longer⟩
/-! _law_curve(tape, first, top); names 0:tape 1:first 2:top 3:initial 4:head 5:turn 6:k -/
def c__law_curve_1 : IE := .call 12 (.cons (.var 0) (.cons (.var 2) (.nil)))
def c__law_curve_2 : IE := .call 12 (.cons (.var 0) (.cons (.var 2) (.nil)))
def s__law_curve : ISs := .cons (.asg (.var 3) (.bi .min2 (.cons (.idx (.lst (.cons (.cst (.int 0)) (.cons (.cst (.int 0)) (.cons (.cst (.int 1)) (.cons (.call 7 (.cons (.var 0) (.cons (.bin .add (.var 1) (.cst (.int 1))) (.nil)))) (.nil)))))) (.call 7 (.cons (.var 0) (.cons (.cst (.int 4)) (.nil))))) (.cons (.var 1) (.nil))))) (.cons (.asg (.var 4) (.bl .tuple (.comp (.var 6) (.rng1 (.idx (.lst (.cons (.cst (.int 0)) (.cons (.cst (.int 0)) (.cons (.cst (.int 1)) (.cons (.cst (.int 2)) (.cons (.cst (.int 3)) (.cons (.cst (.int 4)) (.nil)))))))) (.call 7 (.cons (.var 0) (.cons (.cst (.int 6)) (.nil)))))) (.nil) c__law_curve_1 [6]))) (.cons (.asg (.var 5) (.bl .tuple (.comp (.var 6) (.rng1 (.bin .add (.cst (.int 1)) (.call 7 (.cons (.var 0) (.cons (.cst (.int 4)) (.nil)))))) (.nil) c__law_curve_2 [6]))) (.cons (.ifs (.val (.cmp .eq (.call 7 (.cons (.var 0) (.cons (.cst (.int 3)) (.nil)))) (.cst (.int 0)))) (.cons (.ret (.bin .add (.tup (.cons (.var 3) (.nil))) (.call 13 (.cons (.var 0) (.cons (.var 4) (.cons (.var 5) (.nil))))))) (.nil)) (.nil)) (.cons (.ret (.tup (.cons (.var 3) (.cons (.var 4) (.cons (.var 5) (.nil)))))) (.nil)))))
def d__law_curve : Df := ⟨3, 7, s__law_curve⟩
/-! _law_growing(tape, first, top); names 0:tape 1:first 2:top 3:curve 4:turn -/
def s__law_growing : ISs := .cons (.asg (.var 3) (.call 14 (.cons (.var 0) (.cons (.var 1) (.cons (.var 2) (.nil)))))) (.cons (.ifs (.val (.cmp .gt (.bl .sum (.of (.idx (.var 3) (.cst (.int 2))))) (.cst (.int 0)))) (.cons (.ret (.var 3)) (.nil)) (.nil)) (.cons (.asg (.var 4) (.bl .list (.of (.idx (.var 3) (.cst (.int 2)))))) (.cons (.set (.var 4) (.call 7 (.cons (.var 0) (.cons (.bl .len (.of (.var 4))) (.nil)))) (.bin .add (.cst (.int 1)) (.call 7 (.cons (.var 0) (.cons (.var 2) (.nil)))))) (.cons (.ret (.tup (.cons (.idx (.var 3) (.cst (.int 0))) (.cons (.idx (.var 3) (.cst (.int 1))) (.cons (.bl .tuple (.of (.var 4))) (.nil)))))) (.nil)))))
def d__law_growing : Df := ⟨3, 5, s__law_growing⟩
/-! _law_refused(curve, x, late); names 0:curve 1:x 2:late 3:hits 4:turn 5:e -/
def t__law_refused_1 : ISs := .cons (.ifs (.val (.cmp .eq (.var 4) (.var 2))) (.cons (.expr (.call 3 (.cons (.var 0) (.cons (.var 1) (.nil))))) (.nil)) (.cons (.expr (.call 4 (.cons (.var 0) (.cons (.var 1) (.nil))))) (.nil))) (.nil)
def e__law_refused_2 : ISs := .cons (.asg (.var 3) (.bin .add (.var 3) (.bi .toInt (.cons (.cst (.bl true)) (.nil))))) (.nil)
def b__law_refused_3 : ISs := .cons (.tryA t__law_refused_1 0 5 e__law_refused_2) (.nil)
def s__law_refused : ISs := .cons (.asg (.var 3) (.cst (.int 0))) (.cons (.for (.var 4) (.rng1 (.cst (.int 2))) b__law_refused_3) (.cons (.ret (.cmp .eq (.var 3) (.cst (.int 2)))) (.nil)))
def d__law_refused : Df := ⟨3, 6, s__law_refused⟩
/-! _law_told(curve, x, late); names 0:curve 1:x 2:late 3:told 4:turn -/
def t__law_told_1 : ISs := .cons (.ifs (.val (.cmp .eq (.var 4) (.var 2))) (.cons (.set (.var 3) (.cst (.int 0)) (.call 3 (.cons (.var 0) (.cons (.var 1) (.nil))))) (.nil)) (.cons (.set (.var 3) (.cst (.int 1)) (.call 4 (.cons (.var 0) (.cons (.var 1) (.nil))))) (.nil))) (.nil)
def e__law_told_2 : ISs := .cons (.ret (.tup (.cons (.cst (.str "refused")) (.cons (.cst (.str "refused")) (.nil))))) (.nil)
def b__law_told_3 : ISs := .cons (.tryE t__law_told_1 0 e__law_told_2) (.nil)
def s__law_told : ISs := .cons (.asg (.var 3) (.lst (.cons (.cst .non) (.cons (.cst .non) (.nil))))) (.cons (.for (.var 4) (.rng1 (.cst (.int 2))) b__law_told_3) (.cons (.ret (.tup (.cons (.idx (.var 3) (.cst (.int 0))) (.cons (.idx (.var 3) (.cst (.int 1))) (.nil))))) (.nil)))
def d__law_told : Df := ⟨3, 5, s__law_told⟩
/-! _law_right(curve, points, n, late); names 0:curve 1:points 2:n 3:late 4:x 5:pair 6:told 7:at -/
def b__law_right_1 : ISs := .cons (.ifs (.val (.cmp .ne (.cmp .le (.var 6) (.var 7)) (.cmp .le (.var 4) (.call 11 (.cons (.var 0) (.cons (.var 7) (.nil))))))) (.cons (.ret (.cst (.bl false))) (.nil)) (.nil)) (.nil)
def b__law_right_2 : ISs := .cons (.ifs (.val (.cmp .ne (.cmp .le (.var 7) (.var 6)) (.cmp .le (.call 11 (.cons (.var 0) (.cons (.var 7) (.nil)))) (.var 4)))) (.cons (.ret (.cst (.bl false))) (.nil)) (.nil)) (.nil)
def b__law_right_3 : ISs := .cons (.asg (.var 5) (.call 17 (.cons (.var 0) (.cons (.var 4) (.cons (.var 3) (.nil)))))) (.cons (.asg (.var 6) (.idx (.var 5) (.cst (.int 0)))) (.cons (.ifs (.or (.not (.val (.call 9 (.cons (.var 6) (.nil))))) (.val (.cmp .lt (.var 6) (.cst (.int 0))))) (.cons (.ret (.cst (.bl false))) (.nil)) (.nil)) (.cons (.for (.var 7) (.of (.disp (.cons (.var 2) (.cons (.var 6) (.cons (.bi .max2 (.cons (.bin .sub (.var 6) (.cst (.int 1))) (.cons (.cst (.int 0)) (.nil)))) (.nil)))))) b__law_right_1) (.cons (.asg (.var 6) (.idx (.var 5) (.cst (.int 1)))) (.cons (.ifs (.val (.cmp .lt (.var 4) (.idx (.var 0) (.cst (.int 0))))) (.cons (.ifs (.val (.cmp .notN (.var 6) (.cst .non))) (.cons (.ret (.cst (.bl false))) (.nil)) (.nil)) (.nil)) (.cons (.ifs (.or (.not (.val (.call 9 (.cons (.var 6) (.nil))))) (.val (.cmp .lt (.var 6) (.cst (.int 0))))) (.cons (.ret (.cst (.bl false))) (.nil)) (.nil)) (.cons (.for (.var 7) (.of (.disp (.cons (.var 2) (.cons (.var 6) (.cons (.bin .add (.var 6) (.cst (.int 1))) (.nil)))))) b__law_right_2) (.nil)))) (.nil))))))
def s__law_right : ISs := .cons (.for (.var 4) (.of (.of (.var 1))) b__law_right_3) (.cons (.ret (.cst (.bl true))) (.nil))
def d__law_right : Df := ⟨4, 8, s__law_right⟩
/-! law(script); names 0:script 1:tape 2:pair 3:some 4:n 5:rows 6:late 7:flat 8:curve -/
def c_law_1 : IE := .bin .add (.lst (.cons (.cst (.int 0)) (.cons (.cst (.int 1)) (.cons (.cst (.int 2)) (.cons (.cst (.int 3)) (.cons (.cst (.int 4)) (.cons (.cst (.int 5)) (.cons (.idx (.var 8) (.cst (.int 0))) (.nil))))))))) (.var 3)
def s_law : ISs := .cons (.asg (.var 1) (.call 6 (.cons (.var 0) (.nil)))) (.cons (.asg (.var 2) (.lst (.cons (.call 15 (.cons (.var 1) (.cons (.cst (.int 20)) (.cons (.cst (.int 20)) (.nil))))) (.cons (.call 15 (.cons (.var 1) (.cons (.cst (.int 20)) (.cons (.cst (.int 20)) (.nil))))) (.nil))))) (.cons (.asg (.var 3) (.lst (.cons (.call 7 (.cons (.var 1) (.cons (.cst (.int 31)) (.nil)))) (.cons (.call 7 (.cons (.var 1) (.cons (.idx (.lst (.cons (.cst (.int 31)) (.cons (.cst (.int 61)) (.cons (.cst (.int 201)) (.nil))))) (.call 7 (.cons (.var 1) (.cons (.cst (.int 3)) (.nil))))) (.nil)))) (.nil))))) (.cons (.asg (.var 4) (.call 8 (.cons (.var 1) (.nil)))) (.cons (.asg (.var 5) (.mk (.comp (.var 8) (.of (.of (.var 2))) (.nil) c_law_1 [8]))) (.cons (.asg (.var 6) (.call 7 (.cons (.var 1) (.cons (.cst (.int 2)) (.nil))))) (.cons (.ifs (.or (.not (.val (.call 18 (.cons (.idx (.var 2) (.cst (.int 0))) (.cons (.idx (.var 5) (.cst (.int 0))) (.cons (.var 4) (.cons (.var 6) (.nil)))))))) (.not (.val (.call 18 (.cons (.idx (.var 2) (.cst (.int 1))) (.cons (.idx (.var 5) (.cst (.int 1))) (.cons (.var 4) (.cons (.var 6) (.nil))))))))) (.cons (.ret (.cst (.bl false))) (.nil)) (.nil)) (.cons (.asg (.var 7) (.tup (.cons (.idx (.idx (.var 2) (.cst (.int 0))) (.cst (.int 0))) (.cons (.idx (.idx (.var 2) (.cst (.int 0))) (.cst (.int 1))) (.cons (.bin .mul (.tup (.cons (.cst (.int 0)) (.nil))) (.bl .len (.of (.idx (.idx (.var 2) (.cst (.int 0))) (.cst (.int 2)))))) (.nil)))))) (.cons (.ifs (.or (.not (.val (.call 16 (.cons (.var 7) (.cons (.idx (.var 3) (.cst (.int 0))) (.cons (.var 6) (.nil))))))) (.not (.val (.call 16 (.cons (.var 7) (.cons (.cst (.int 0)) (.cons (.var 6) (.nil)))))))) (.cons (.ret (.cst (.bl false))) (.nil)) (.nil)) (.cons (.ret (.call 18 (.cons (.idx (.var 2) (.cst (.int 0))) (.cons (.idx (.var 5) (.cst (.int 0))) (.cons (.var 4) (.cons (.bin .sub (.cst (.int 1)) (.var 6)) (.nil))))))) (.nil))))))))))
def d_law : Df := ⟨1, 9, s_law⟩
abbrev P : Program := PySem.Challenge.pw_plantrace_k10_inverses_at_a_point
def r_least_point : Dd := ⟨"least_point", 1, ["curve", "x", "point", "step", "rounds", "level", "transient", "period"], ["curve", "x"], d_least_point⟩
def r_greatest_point : Dd := ⟨"greatest_point", 2, ["curve", "x"], ["curve", "x"], d_greatest_point⟩
def r_is_unbounded : Dd := ⟨"is_unbounded", 4, ["curve"], ["curve"], d_is_unbounded⟩
def r_lower_at : Dd := ⟨"lower_at", 17, ["curve", "x"], ["curve", "x"], d_lower_at⟩
def r_upper_at : Dd := ⟨"upper_at", 18, ["curve", "x"], ["curve", "x"], d_upper_at⟩
def r__check_unbounded : Dd := ⟨"_check_unbounded", 19, ["curve"], ["curve"], d__check_unbounded⟩
def r__law_tape : Dd := ⟨"_law_tape", 21, ["script", "mixed", "cell"], ["script"], d__law_tape⟩
def r__law_draw : Dd := ⟨"_law_draw", 22, ["tape", "many", "number", "place"], ["tape", "many"], d__law_draw⟩
def r__law_point : Dd := ⟨"_law_point", 23, ["tape"], ["tape"], d__law_point⟩
def r__law_whole : Dd := ⟨"_law_whole", 24, ["told"], ["told"], d__law_whole⟩
def r__law_single : Dd := ⟨"_law_single", 25, ["e", "found"], ["e"], d__law_single⟩
def r__law_at : Dd := ⟨"_law_at", 26, ["curve", "x", "head", "rest", "size"], ["curve", "x"], d__law_at⟩
def r__law_rise : Dd := ⟨"_law_rise", 27, ["tape", "top", "kind"], ["tape", "top"], d__law_rise⟩
def r__law_longer : Dd := ⟨"_law_longer", 28, ["tape", "head", "turn", "k"], ["tape", "head", "turn"], d__law_longer⟩
def r__law_curve : Dd := ⟨"_law_curve", 29, ["tape", "first", "top", "initial", "head", "turn", "k"], ["tape", "first", "top"], d__law_curve⟩
def r__law_growing : Dd := ⟨"_law_growing", 30, ["tape", "first", "top", "curve", "turn"], ["tape", "first", "top"], d__law_growing⟩
def r__law_refused : Dd := ⟨"_law_refused", 31, ["curve", "x", "late", "hits", "turn", "e"], ["curve", "x", "late"], d__law_refused⟩
def r__law_told : Dd := ⟨"_law_told", 32, ["curve", "x", "late", "told", "turn"], ["curve", "x", "late"], d__law_told⟩
def r__law_right : Dd := ⟨"_law_right", 33, ["curve", "points", "n", "late", "x", "pair", "told", "at"], ["curve", "points", "n", "late"], d__law_right⟩
def r_law : Dd := ⟨"law", 34, ["script", "tape", "pair", "some", "n", "rows", "late", "flat", "curve"], ["script"], d_law⟩
def rs : List Dd := [r_least_point, r_greatest_point, r_is_unbounded, r_lower_at, r_upper_at, r__check_unbounded, r__law_tape, r__law_draw, r__law_point, r__law_whole, r__law_single, r__law_at, r__law_rise, r__law_longer, r__law_curve, r__law_growing, r__law_refused, r__law_told, r__law_right, r_law]
def blt : List Str := ["sum", "len", "int", "abs", "list", "max", "isinstance", "bool", "min", "range", "tuple", "ValueError"]
def mth : List Str := []
def cns : List (Str × W) := []
def cls : List Str := ["BoundedCurve"]
def ist : List (Nat × Str × Bool) := [(0, "BadBill", false), (0, "BadPlant", false), (0, "BoundedCurve", true), (0, "CannotRun", false), (0, "NoSuchUnit", false), (0, "NotConvergent", false), (0, "NothingToUndo", false), (0, "TooLarge", false), (0, "TooMuch", false), (0, "PlantError", true), (0, "ValueError", true)]
def sng : List (Str × Nat × Bool) := [("_law_single", 0, true)]
abbrev ds : List Df := [d_least_point, d_greatest_point, d_is_unbounded, d_lower_at, d_upper_at, d__check_unbounded, d__law_tape, d__law_draw, d__law_point, d__law_whole, d__law_single, d__law_at, d__law_rise, d__law_longer, d__law_curve, d__law_growing, d__law_refused, d__law_told, d__law_right, d_law]
end Law

section
/-! The head and the end, printed by gen.py. -/
open PySem PySem.W PySem.Calls PyProof.Rows Ev
abbrev Law.R : PySem.W.OpenRow := PySem.W.OpenLaw.row PySem.Challenge.rw_plantrace_k10_inverses_at_a_point
abbrev Law.hk : PySem.W.Hook := hookE 4 (faOf Law.rs Law.blt) (fnOf Law.P Law.rs) (exOf Law.mth Law.cns Law.cls Law.blt Law.ist)
theorem Law.run (w : World) : HandSHeadRun.RunEq Law.R (PySem.W.view Law.R.prog [34]) Law.hk (obE 4 (faOf Law.rs Law.blt) (fnOf Law.P Law.rs) (exOf Law.mth Law.cns Law.cls Law.blt Law.ist)) 4000 ["least_point", "greatest_point", "is_unbounded", "PlantError", "BadPlant", "BadBill", "BoundedCurve", "TooMuch", "TooLarge", "CannotRun", "NoSuchUnit", "NotConvergent", "NothingToUndo", "lower_at", "upper_at", "_check_unbounded", "_law_tape", "_law_draw", "_law_point", "_law_whole", "_law_single", "_law_at", "_law_rise", "_law_longer", "_law_curve", "_law_growing", "_law_refused", "_law_told", "_law_right"] w := by
  intro os
  kernel_rfl
end

set_option Elab.async false
set_option linter.all false
set_option maxRecDepth 100000
/-! Wp1: walking through the small language by rewriting. -/
namespace Ev
open PySem

/-- shuts a term off from rewriting -/
inductive Sl {α : Sort _} (a : α) : Type | k
def wp {α : Type} (r : Res α) (Q : α → Hw → Prop) (E : Ex → Hw → Prop) (_ : Sl Q := .k) (_ : Sl E := .k) : Prop :=
  match r with
  | .ok a h => Q a h
  | .exc e h => E e h
  | .err => False
def wps (r : Rs) (Q : Fl → En → Hw → Prop) (_ : Sl Q := .k) : Prop :=
  match r with
  | .ok (f, ρ) h => Q f ρ h
  | _ => False
def wo {α : Type} (o : Option α) (Q : α → Prop) (_ : Sl Q := .k) : Prop :=
  match o with
  | some a => Q a
  | none => False
abbrev noE : Ex → Hw → Prop := fun _ _ => False
/-- the greatest, j of none -/
def maxD (ns : List Int) (j : Int) : Int := match ns with
  | [] => j
  | n :: ns => maxL (n :: ns)
/-- a branch -/
def br (b : Bool) (A B : Prop) (_ : Sl A := .k) (_ : Sl B := .k) : Prop := if b = true then A else B
theorem br_t {A B : Prop} : br true A B = A := rfl
theorem br_f {A B : Prop} : br false A B = B := rfl
theorem br_intro {c : Prop} [Decidable c] {A B : Prop} (h1 : c → A) (h2 : ¬ c → B) : br (decide c) A B := by
  unfold br
  by_cases h : c
  · simp [h, h1]
  · simp [h, h2]
theorem br_intro' {c : Bool} {A B : Prop} (h1 : c = true → A) (h2 : c = false → B) : br c A B := by
  cases c
  · exact h2 rfl
  · exact h1 rfl
theorem wo_some {α : Type} {a : α} {Q : α → Prop} : wo (some a) Q = Q a := rfl
theorem wo_none {α : Type} {Q : α → Prop} : wo none Q = False := rfl
theorem wo_ex {α : Type} {o : Option α} {Q : α → Prop} {a : α} (e : o = some a) (h : Q a) : wo o Q := by rw [e]; exact h
section
variable {α β : Type} {Q : α → Hw → Prop} {E : Ex → Hw → Prop} {h : Hw}
theorem wp_ok {a : α} : wp (.ok a h) Q E = Q a h := rfl
theorem wp_err : wp (.err : Res α) Q E = False := rfl
theorem wp_exc {e : Ex} : wp (.exc e h : Res α) Q E = E e h := rfl
theorem wp_bind {r : Res β} {f : β → Hw → Res α} : wp (r.bind f) Q E = wp r (fun a h => wp (f a h) Q E) E := by cases r <;> rfl
theorem wp_mono {r : Res α} {Q' : α → Hw → Prop} {E' : Ex → Hw → Prop} (w : wp r Q E) (hq : ∀ a h, Q a h → Q' a h) (he : ∀ e h, E e h → E' e h) : wp r Q' E' := by
  cases r with
  | ok a h => exact hq _ _ w
  | exc e h => exact he _ _ w
  | err => exact w
theorem wp_eq {r : Res α} {a : α} {h' : Hw} (e : r = .ok a h') (q : Q a h') : wp r Q E := by rw [e]; exact q
theorem wpc {r : Res α} {Q' : α → Hw → Prop} (e : ∀ a h, Q a h = Q' a h) : wp r Q E = wp r Q' E := by
  have : Q = Q' := funext fun a => funext fun h => e a h
  subst this; rfl
theorem wp_run {r : Res α} {a : α} {h' : Hw} (w : wp r (fun b g => b = a ∧ g = h') noE) : r = .ok a h' := by
  cases r with
  | ok b g => obtain ⟨rfl, rfl⟩ := w; rfl
  | exc e h => exact w.elim
  | err => exact w.elim
end
theorem wps_st {α : Type} {r : Res α} {ρ : En} {f : α → Hw → Rs} {Q : Fl → En → Hw → Prop} : wps (r.st ρ f) Q = wp r (fun a h => wps (f a h) Q) (fun e h => Q (.rz e) ρ h) := by cases r <;> rfl
theorem wps_ok {f : Fl} {ρ : En} {h : Hw} {Q : Fl → En → Hw → Prop} : wps (.ok (f, ρ) h) Q = Q f ρ h := rfl
theorem wps_mono {r : Rs} {Q Q' : Fl → En → Hw → Prop} (w : wps r Q) (hq : ∀ f ρ h, Q f ρ h → Q' f ρ h) : wps r Q' := by
  match r, w with
  | .ok (f, ρ) h, w => exact hq _ _ _ w

/-! the heap -/
def lstAt (h : Hw) (p : Nat) : Option (List W) := match h[p]? with
  | some (.lst xs) => some xs
  | _ => none
theorem lstAt_of {h : Hw} {p : Nat} {xs : List W} (e : h[p]? = some (.lst xs)) : lstAt h p = some xs := by unfold lstAt; rw [e]
theorem lstAt_get {h : Hw} {p : Nat} {xs : List W} (e : lstAt h p = some xs) : h[p]? = some (.lst xs) := by
  unfold lstAt at e
  split at e
  · rename_i ys e2; cases e; exact e2
  · cases e
theorem lstAt_lt {h : Hw} {p : Nat} {xs : List W} (e : lstAt h p = some xs) : p < h.length := (List.getElem?_eq_some_iff.mp (lstAt_get e)).1
theorem lstAt_z {xs : List W} {h : Hw} : lstAt (.lst xs :: h) 0 = some xs := rfl
theorem lstAt_s {o : O} {h : Hw} {n : Nat} : lstAt (o :: h) (n + 1) = lstAt h n := rfl
theorem lstAt_al {h t : Hw} {i : Nat} (e : i < h.length) : lstAt (h ++ t) i = lstAt h i := by unfold lstAt; rw [List.getElem?_append_left e]
theorem lstAt_ar {h t : Hw} {i : Nat} (e : h.length ≤ i) : lstAt (h ++ t) i = lstAt t (i - h.length) := by unfold lstAt; rw [List.getElem?_append_right e]
theorem lstAt_e {h t : Hw} {o : O} : lstAt (h ++ o :: t) h.length = lstAt (o :: t) 0 := by rw [lstAt_ar (Nat.le_refl _), Nat.sub_self]
theorem lstAt_set {h : Hw} {p : Nat} {xs : List W} (e : p < h.length) : lstAt (h.set p (.lst xs)) p = some xs := by unfold lstAt; rw [List.getElem?_set_self e]
theorem lstAt_ne {h : Hw} {p q : Nat} {o : O} (e : p ≠ q) : lstAt (h.set p o) q = lstAt h q := by unfold lstAt; rw [List.getElem?_set_ne e]
theorem seqOf_ref {h : Hw} {p : Nat} : seqOf h (.ref p) = lstAt h p := rfl
theorem seqOf_tup {h : Hw} {xs : List W} : seqOf h (.tup xs) = some xs := rfl
theorem seqOf_fl {h : Hw} {xs : List W} : seqOf h (.fl xs) = some xs := rfl

/-! lists of whole numbers -/
theorem toInts_ints (ns : List Int) : toInts (ns.map W.int) = some ns := by
  induction ns with
  | nil => rfl
  | cons n ns ih => show (toInts _).map _ = _; rw [ih]; rfl
theorem toInts_nil : toInts [] = some [] := rfl
theorem toInts_cons {i : Int} {r : List W} : toInts (.int i :: r) = (toInts r).map (i :: ·) := rfl

def negW (x : W) (h : Hw) : Res W := match x with | .int i => .ok (.int (-i)) h | _ => .err
def intW : W → Option Int | .int i => some i | _ => none
def mtW (x : W) (h : Hw) : Option (List W) := match x with | .ref n => lstAt h n | _ => none
/-! expressions -/
section
variable {Φ : Fn} {ρ : En} {h : Hw} {Q : W → Hw → Prop} {E : Ex → Hw → Prop}
def look (ρ : En) (i : Nat) : Option W := match ρ[i]? with
  | some (some w) => some w
  | _ => none
theorem look_z {w : W} {ρ : En} : look (some w :: ρ) 0 = some w := rfl
theorem look_s {o : Option W} {ρ : En} {n : Nat} : look (o :: ρ) (n + 1) = look ρ n := rfl
theorem wp_var {i : Nat} : wp (evE Φ (.var i) ρ h) Q E = wo (look ρ i) fun w => Q w h := by
  rw [evE]
  unfold look
  cases e : ρ[i]? with
  | none => rfl
  | some o => cases o <;> rfl
theorem wp_cst {w : W} : wp (evE Φ (.cst w) ρ h) Q E = Q w h := by unfold evE; rfl
theorem wp_bin {o : Bop} {a b : IE} : wp (evE Φ (.bin o a b) ρ h) Q E = wp (evE Φ a ρ h) (fun x h => wp (evE Φ b ρ h) (fun y h => wp (bop o x y h) Q E) E) E := by
  rw [evE, wp_bind]; exact wpc fun x h => wp_bind
theorem wp_neg {a : IE} : wp (evE Φ (.neg a) ρ h) Q E = wp (evE Φ a ρ h) (fun x h => wp (negW x h) Q E) E := by
  rw [evE, wp_bind]; rfl
theorem wp_cmp {o : Cop} {a b : IE} : wp (evE Φ (.cmp o a b) ρ h) Q E = wp (evE Φ a ρ h) (fun x h => wp (evE Φ b ρ h) (fun y h => wp (cmp o x y h) Q E) E) E := by
  rw [evE, wp_bind]; exact wpc fun x h => wp_bind
theorem wp_and {a b : IE} : wp (evE Φ (.and a b) ρ h) Q E = wp (evE Φ a ρ h) (fun x h => wo (truth x h) fun k => br k (wp (evE Φ b ρ h) Q E) (Q x h)) E := by
  rw [evE, wp_bind]
  refine wpc fun x h => ?_
  cases truth x h with
  | none => rfl
  | some k => cases k <;> rfl
theorem wp_or {a b : IE} : wp (evE Φ (.or a b) ρ h) Q E = wp (evE Φ a ρ h) (fun x h => wo (truth x h) fun k => br k (Q x h) (wp (evE Φ b ρ h) Q E)) E := by
  rw [evE, wp_bind]
  refine wpc fun x h => ?_
  cases truth x h with
  | none => rfl
  | some k => cases k <;> rfl
theorem wp_not {a : IT} : wp (evE Φ (.not a) ρ h) Q E = wp (evT Φ a ρ h) (fun k h => Q (.bl (!k)) h) E := by
  rw [evE, wp_bind]; rfl
theorem wp_ite {c : IT} {a b : IE} : wp (evE Φ (.ite c a b) ρ h) Q E = wp (evT Φ c ρ h) (fun k h => br k (wp (evE Φ a ρ h) Q E) (wp (evE Φ b ρ h) Q E)) E := by
  rw [evE, wp_bind]
  refine wpc fun k h => ?_; cases k <;> rfl
theorem wp_tup {es : IEs} : wp (evE Φ (.tup es) ρ h) Q E = wp (evEs Φ es ρ h) (fun vs h => vs.length ≤ 16777216 ∧ Q (.tup vs) h) E := by
  rw [evE, wp_bind]
  refine wpc fun vs h => ?_
  show wp (if vs.length ≤ 16777216 then _ else _) Q E = _
  by_cases c : vs.length ≤ 16777216
  · rw [if_pos c]; simp [c, wp_ok]
  · rw [if_neg c]; simp [c, wp_err]
theorem wp_lst {es : IEs} : wp (evE Φ (.lst es) ρ h) Q E = wp (evEs Φ es ρ h) (fun vs h => vs.length ≤ 16777216 ∧ Q (.ref h.length) (h ++ [.lst vs])) E := by
  rw [evE, wp_bind]
  refine wpc fun vs h => ?_
  show wp (if vs.length ≤ 16777216 then _ else _) Q E = _
  by_cases c : vs.length ≤ 16777216
  · rw [if_pos c]; simp [c, wp_ok]
  · rw [if_neg c]; simp [c, wp_err]
theorem wp_idx {a b : IE} : wp (evE Φ (.idx a b) ρ h) Q E = wp (evE Φ a ρ h) (fun x h => wp (evE Φ b ρ h) (fun y h => wp (item x y h) Q E) E) E := by
  rw [evE, wp_bind]; exact wpc fun x h => wp_bind
theorem wp_slc {a : IE} {lo hi : IP} : wp (evE Φ (.slc a lo hi) ρ h) Q E = wp (evE Φ a ρ h) (fun x h => wp (evP Φ lo ρ h) (fun l h => wp (evP Φ hi ρ h) (fun u h => wp (slice x l u h) Q E) E) E) E := by
  rw [evE, wp_bind]; exact wpc fun x h => (wp_bind).trans (wpc fun l h => wp_bind)
theorem wp_call {f : Nat} {es : IEs} : wp (evE Φ (.call f es) ρ h) Q E = wp (evEs Φ es ρ h) (fun vs h => wp (Φ f vs h) Q E) E := by
  rw [evE, wp_bind]
theorem wp_bi {f : Bi} {es : IEs} : wp (evE Φ (.bi f es) ρ h) Q E = wp (evEs Φ es ρ h) (fun vs h => wp (bi f vs h) Q E) E := by
  rw [evE, wp_bind]
theorem wp_bl {f : Bl} {l : IL} : wp (evE Φ (.bl f l) ρ h) Q E = wp (evL Φ l ρ h) (fun q h => wp (bl f q.1 h) Q E) E := by
  rw [evE, wp_bind]
theorem wp_mt {f : Mt} {o : IE} {es : IEs} : wp (evE Φ (.mt f o es) ρ h) Q E = wp (evE Φ o ρ h) (fun x h => wo (mtW x h) fun _ => wp (evEs Φ es ρ h) (fun vs h => wp (mt f x vs h) Q E) E) E := by
  rw [evE, wp_bind]
  refine wpc fun x h => ?_
  unfold mtW
  cases x <;> try rfl
  rename_i n
  dsimp only
  unfold lstAt
  cases h[n]? with
  | none => rfl
  | some o => cases o with
    | lst xs => exact wp_bind
    | dic _ _ => rfl
    | dit _ _ => rfl
theorem wp_mk {l : IL} : wp (evE Φ (.mk l) ρ h) Q E = wp (evL Φ l ρ h) (fun q h => Q (.ref h.length) (h ++ [.lst q.1])) E := by
  rw [evE, wp_bind]; rfl
theorem wp_maxD {l : IL} {j : Int} : wp (evE Φ (.maxD l j) ρ h) Q E = wp (evL Φ l ρ h) (fun q h => q.2.2 = false ∧ wo (toInts q.1) fun ns => Q (.int (maxD ns j)) h) E := by
  rw [evE, wp_bind]
  refine wpc fun q h => ?_
  unfold maxDf
  cases q.2.2 with
  | true => simp [wp_err]
  | false => cases toInts q.1 with
    | none => simp [wp_err, wo]
    | some ns => cases ns <;> simp [wp_ok, wo, maxD]
theorem wp_glc {w : W} : wp (evE Φ (.glc w) ρ h) Q E = Q w h := by unfold evE; rfl
theorem wp_rgN {a : IE} : wp (evE Φ (.rgN a) ρ h) Q E = wp (evE Φ a ρ h) (fun x h => wo (intW x) fun j => Q (.rg 0 j) h) E := by
  rw [evE, wp_bind]
  refine wpc fun x h => ?_
  cases x <;> rfl
theorem wp_srtD {l : IL} : wp (evE Φ (.srtD l) ρ h) Q E = wp (evL Φ l ρ h) (fun q h => wo (toInts q.1) fun ns => ns.length < 64 ∧ Q (.ref h.length) (h ++ [.lst ((dsort ns).map W.int)])) E := by
  rw [evE, wp_bind]
  refine wpc fun q h => ?_
  unfold srtDf
  cases toInts q.1 with
  | none => simp [wp_err, wo]
  | some ns =>
    by_cases c : ns.length < 64
    · simp [c, wp_ok, wo]
    · simp [c, wp_err, wo]
theorem wp_srt {l : IL} : wp (evE Φ (.srt l) ρ h) Q E = wp (evL Φ l ρ h) (fun q h => wo (toInts q.1) fun ns => ns.length < 64 ∧ Q (.ref h.length) (h ++ [.lst ((isort ns).map W.int)])) E := by
  rw [evE, wp_bind]
  refine wpc fun q h => ?_
  unfold srtf
  cases toInts q.1 with
  | none => simp [wp_err, wo]
  | some ns =>
    by_cases c : ns.length < 64
    · simp [c, wp_ok, wo]
    · simp [c, wp_err, wo]
theorem wp_lr1 {a : IE} : wp (evE Φ (.lr1 a) ρ h) Q E = wp (evE Φ a ρ h) (fun x h => wo (intW x) fun j => (-4611686018427387904 ≤ j ∧ j ≤ 16777216) ∧ Q (.ref h.length) (h ++ [.lst (rng 0 j.toNat)])) E := by
  rw [evE, wp_bind]
  refine wpc fun x h => ?_
  cases x <;> try rfl
  rename_i j
  dsimp only [intW, wo]
  rw [Int.sub_zero]
  by_cases c : -(2 ^ 62) ≤ j ∧ j ≤ 16777216
  · rw [if_pos c]; exact propext ⟨fun q => ⟨c, q⟩, fun q => q.2⟩
  · rw [if_neg c]; exact propext ⟨fun q => q.elim, fun q => c q.1⟩
theorem wp_lr2 {a b : IE} : wp (evE Φ (.lr2 a b) ρ h) Q E = wp (evE Φ a ρ h) (fun x h => wp (evE Φ b ρ h) (fun y h => wo (intW x) fun i => wo (intW y) fun j => (-4611686018427387904 ≤ i ∧ i < 4611686018427387904 ∧ -4611686018427387904 ≤ j ∧ j < 4611686018427387904 ∧ (j - i).toNat ≤ 16777216) ∧ Q (.ref h.length) (h ++ [.lst (rng i (j - i).toNat)])) E) E := by
  rw [evE, wp_bind]
  refine wpc fun x h => (wp_bind).trans ?_
  refine wpc fun y h => ?_
  cases x <;> cases y <;> try rfl
  rename_i i j
  dsimp only [intW, wo]
  by_cases c : -(2 ^ 62) ≤ i ∧ i < 2 ^ 62 ∧ -(2 ^ 62) ≤ j ∧ j < 2 ^ 62 ∧ (j - i).toNat ≤ lim
  · rw [if_pos c]; exact propext ⟨fun q => ⟨c, q⟩, fun q => q.2⟩
  · rw [if_neg c]; exact propext ⟨fun q => q.elim, fun q => c q.1⟩
theorem wp_aa {k : Bool} {l : IL} : wp (evE Φ (.aa k l) ρ h) Q E = wp (evL Φ l ρ h) (fun q h => q.2.2 = false ∧ wo (toBls q.1) fun bs => Q (.bl (if k then bs.all id else bs.any id)) h) E := by
  rw [evE, wp_bind]
  refine wpc fun q h => ?_
  unfold aaf
  cases q.2.2 with
  | true => simp [wp_err]
  | false => cases toBls q.1 with
    | none => simp [wp_err, wo]
    | some bs => simp [wp_ok, wo]
theorem wp_tr2 {a b : IE} : wp (evE Φ (.tr2 a b) ρ h) Q E = wp (evE Φ a ρ h) (fun x h => wp (evE Φ b ρ h) (fun y h => wo (intW x) fun i => wo (intW y) fun j => (-4611686018427387904 ≤ i ∧ i < 4611686018427387904 ∧ -4611686018427387904 ≤ j ∧ j < 4611686018427387904 ∧ (j - i).toNat ≤ 16777216) ∧ Q (.tup (rng i (j - i).toNat)) h) E) E := by
  rw [evE, wp_bind]
  refine wpc fun x h => (wp_bind).trans ?_
  refine wpc fun y h => ?_
  cases x <;> cases y <;> try rfl
  rename_i i j
  dsimp only [intW, wo]
  by_cases c : -(2 ^ 62) ≤ i ∧ i < 2 ^ 62 ∧ -(2 ^ 62) ≤ j ∧ j < 2 ^ 62 ∧ (j - i).toNat ≤ lim
  · rw [if_pos c]; exact propext ⟨fun q => ⟨c, q⟩, fun q => q.2⟩
  · rw [if_neg c]; exact propext ⟨fun q => q.elim, fun q => c q.1⟩
theorem toBls_nil : toBls [] = some [] := rfl
theorem toBls_cons {i : Bool} {r : List W} : toBls (.bl i :: r) = (toBls r).map (i :: ·) := rfl
theorem wp_esn {Q : List W → Hw → Prop} : wp (evEs Φ .nil ρ h) Q E = Q [] h := by rw [evEs]; rfl
theorem wp_esc {e : IE} {es : IEs} {Q : List W → Hw → Prop} : wp (evEs Φ (.cons e es) ρ h) Q E = wp (evE Φ e ρ h) (fun x h => wp (evEs Φ es ρ h) (fun xs h => Q (x :: xs) h) E) E := by
  rw [evEs, wp_bind]; exact wpc fun x h => wp_bind
theorem wp_pn {Q : Option Int → Hw → Prop} : wp (evP Φ .no ρ h) Q E = Q none h := by rw [evP]; rfl
theorem wp_pa {e : IE} {Q : Option Int → Hw → Prop} : wp (evP Φ (.at e) ρ h) Q E = wp (evE Φ e ρ h) (fun x h => wo (intW x) fun i => Q (some i) h) E := by
  rw [evP, wp_bind]
  refine wpc fun x h => ?_; cases x <;> rfl
theorem wp_tv {e : IE} {Q : Bool → Hw → Prop} : wp (evT Φ (.val e) ρ h) Q E = wp (evE Φ e ρ h) (fun x h => wo (truth x h) fun k => Q k h) E := by
  rw [evT, wp_bind]
  refine wpc fun x h => ?_
  cases truth x h <;> rfl
theorem wp_ta {a b : IT} {Q : Bool → Hw → Prop} : wp (evT Φ (.and a b) ρ h) Q E = wp (evT Φ a ρ h) (fun k h => br k (wp (evT Φ b ρ h) Q E) (Q false h)) E := by
  rw [evT, wp_bind]
  refine wpc fun k h => ?_; cases k <;> rfl
theorem wp_to {a b : IT} {Q : Bool → Hw → Prop} : wp (evT Φ (.or a b) ρ h) Q E = wp (evT Φ a ρ h) (fun k h => br k (Q true h) (wp (evT Φ b ρ h) Q E)) E := by
  rw [evT, wp_bind]
  refine wpc fun k h => ?_; cases k <;> rfl
theorem wp_tn {a : IT} {Q : Bool → Hw → Prop} : wp (evT Φ (.not a) ρ h) Q E = wp (evT Φ a ρ h) (fun k h => Q (!k) h) E := by
  rw [evT, wp_bind]; rfl
theorem wp_lo {e : IE} {Q : List W × Gu × Bool → Hw → Prop} : wp (evL Φ (.of e) ρ h) Q E = wp (evE Φ e ρ h) (fun x h => wo (seqOf h x) fun xs => Q (xs, guOf x xs, isTup x) h) E := by
  rw [evL, wp_bind]
  refine wpc fun x h => ?_
  cases seqOf h x <;> rfl
theorem wp_ld {es : IEs} {Q : List W × Gu × Bool → Hw → Prop} : wp (evL Φ (.disp es) ρ h) Q E = wp (evEs Φ es ρ h) (fun vs h => vs.length ≤ 16777216 ∧ Q (vs, [], false) h) E := by
  rw [evL, wp_bind]
  refine wpc fun vs h => ?_
  show wp (if vs.length ≤ 16777216 then _ else _) Q E = _
  by_cases c : vs.length ≤ 16777216
  · rw [if_pos c]; simp [c, wp_ok]
  · rw [if_neg c]; simp [c, wp_err]
theorem wp_lc {g : IG} {it : II} {ts : ITs} {elt : IE} {own : List Nat} {Q : List W × Gu × Bool → Hw → Prop} : wp (evL Φ (.comp g it ts elt own) ρ h) Q E = wp (evI Φ it ρ h) (fun q h => wp (compL g q.2 (fun ρ h => evTs Φ ts ρ h) (fun ρ h => evE Φ elt ρ h) own ρ q.1 h []) (fun ys h => Q (ys, [], false) h) E) E := by
  rw [evL, wp_bind]; exact wpc fun x h => wp_bind
theorem wp_lc2 {g g2 : IG} {it it2 : II} {ts ts2 : ITs} {elt : IE} {own own2 : List Nat} {Q : List W × Gu × Bool → Hw → Prop} : wp (evL Φ (.comp2 g it ts g2 it2 ts2 elt own own2) ρ h) Q E = wp (evI Φ it ρ h) (fun q h => wp (compM g q.2 (fun ρ h => evTs Φ ts ρ h) (fun ρ h acc => (evI Φ it2 ρ h).bind fun q2 h => compL g2 q2.2 (fun ρ h => evTs Φ ts2 ρ h) (fun ρ h => evE Φ elt ρ h) own2 ρ q2.1 h acc) own ρ q.1 h []) (fun ys h => Q (ys, [], false) h) E) E := by
  rw [evL, wp_bind]; exact wpc fun x h => wp_bind
theorem wp_tsn {Q : Bool → Hw → Prop} : wp (evTs Φ .nil ρ h) Q E = Q true h := by rw [evTs]; rfl
theorem wp_tsc {t : IT} {ts : ITs} {Q : Bool → Hw → Prop} : wp (evTs Φ (.cons t ts) ρ h) Q E = wp (evT Φ t ρ h) (fun k h => br k (wp (evTs Φ ts ρ h) Q E) (Q false h)) E := by
  rw [evTs, wp_bind]
  refine wpc fun k h => ?_; cases k <;> rfl
theorem wp_io {l : IL} {Q : List W × Gu → Hw → Prop} : wp (evI Φ (.of l) ρ h) Q E = wp (evL Φ l ρ h) (fun q h => Q (q.1, q.2.1) h) E := by
  rw [evI, wp_bind]; rfl
theorem wp_i1 {a : IE} {Q : List W × Gu → Hw → Prop} : wp (evI Φ (.rng1 a) ρ h) Q E = wp (evE Φ a ρ h) (fun x h => wo (intW x) fun j => (-(2 ^ 62) ≤ j ∧ j < 2 ^ 62) ∧ Q (rng 0 j.toNat, []) h) E := by
  rw [evI, wp_bind]
  refine wpc fun x h => ?_
  cases x <;> try rfl
  rename_i j
  dsimp only [intW, wo]
  by_cases c : -(2 ^ 62) ≤ j ∧ j < 2 ^ 62
  · rw [if_pos c]; exact propext ⟨fun q => ⟨c, q⟩, fun q => q.2⟩
  · rw [if_neg c]; simp only [c, wp_err, false_and]
theorem wp_i3 {a b : IE} {Q : List W × Gu → Hw → Prop} : wp (evI Φ (.rng3 a b) ρ h) Q E = wp (evE Φ a ρ h) (fun x h => wp (evE Φ b ρ h) (fun y h => wo (intW x) fun i => wo (intW y) fun j => (-(2 ^ 62) ≤ i ∧ i < 2 ^ 62 ∧ -(2 ^ 62) ≤ j ∧ j < 2 ^ 62) ∧ Q (rngd i (i - j).toNat, []) h) E) E := by
  rw [evI, wp_bind]
  refine wpc fun x h => (wp_bind).trans ?_
  refine wpc fun y h => ?_
  cases x <;> cases y <;> try rfl
  rename_i i j
  dsimp only [intW, wo]
  by_cases c : -(2 ^ 62) ≤ i ∧ i < 2 ^ 62 ∧ -(2 ^ 62) ≤ j ∧ j < 2 ^ 62
  · rw [if_pos c]; exact propext ⟨fun q => ⟨c, q⟩, fun q => q.2⟩
  · rw [if_neg c]; simp only [c, wp_err, false_and]
theorem wp_ir {a : IE} {Q : List W × Gu → Hw → Prop} : wp (evI Φ (.rgR a) ρ h) Q E = wp (evE Φ a ρ h) (fun x h => wo (intW x) fun j => (-(2 ^ 62) ≤ j ∧ j < 2 ^ 62) ∧ Q (rngd ((j.toNat : Int) - 1) j.toNat, []) h) E := by
  rw [evI, wp_bind]
  refine wpc fun x h => ?_
  cases x <;> try rfl
  rename_i j
  dsimp only [intW, wo]
  by_cases c : -(2 ^ 62) ≤ j ∧ j < 2 ^ 62
  · rw [if_pos c]; exact propext ⟨fun q => ⟨c, q⟩, fun q => q.2⟩
  · rw [if_neg c]; simp only [c, wp_err, false_and]
def rgW : W → Option (Int × Int) | .rg i j => some (i, j) | _ => none
theorem rgW_rg {i j : Int} : rgW (.rg i j) = some (i, j) := rfl
theorem wp_iv {e : IE} {Q : List W × Gu → Hw → Prop} : wp (evI Φ (.rgv e) ρ h) Q E = wp (evE Φ e ρ h) (fun x h => wo (rgW x) fun p => (-(2 ^ 62) ≤ p.1 ∧ p.1 < 2 ^ 62 ∧ -(2 ^ 62) ≤ p.2 ∧ p.2 < 2 ^ 62) ∧ Q (rng p.1 (p.2 - p.1).toNat, []) h) E := by
  rw [evI, wp_bind]
  refine wpc fun x h => ?_
  cases x <;> try rfl
  rename_i i j
  dsimp only [rgW, wo]
  by_cases c : -(2 ^ 62) ≤ i ∧ i < 2 ^ 62 ∧ -(2 ^ 62) ≤ j ∧ j < 2 ^ 62
  · rw [if_pos c]; exact propext ⟨fun q => ⟨c, q⟩, fun q => q.2⟩
  · rw [if_neg c]; simp only [c, wp_err, false_and]
theorem wp_i2 {a b : IE} {Q : List W × Gu → Hw → Prop} : wp (evI Φ (.rng2 a b) ρ h) Q E = wp (evE Φ a ρ h) (fun x h => wp (evE Φ b ρ h) (fun y h => wo (intW x) fun i => wo (intW y) fun j => (-(2 ^ 62) ≤ i ∧ i < 2 ^ 62 ∧ -(2 ^ 62) ≤ j ∧ j < 2 ^ 62) ∧ Q (rng i (j - i).toNat, []) h) E) E := by
  rw [evI, wp_bind]
  refine wpc fun x h => (wp_bind).trans ?_
  refine wpc fun y h => ?_
  cases x <;> cases y <;> try rfl
  rename_i i j
  dsimp only [intW, wo]
  by_cases c : -(2 ^ 62) ≤ i ∧ i < 2 ^ 62 ∧ -(2 ^ 62) ≤ j ∧ j < 2 ^ 62
  · rw [if_pos c]; exact propext ⟨fun q => ⟨c, q⟩, fun q => q.2⟩
  · rw [if_neg c]; simp only [c, wp_err, false_and]
theorem wp_iz {a b : IL} {Q : List W × Gu → Hw → Prop} : wp (evI Φ (.zip a b) ρ h) Q E = wp (evL Φ a ρ h) (fun p h => wp (evL Φ b ρ h) (fun q h => Q ((p.1.zip q.1).map fun z => .tup [z.1, z.2], p.2.1 ++ q.2.1) h) E) E := by
  rw [evI, wp_bind]
  refine wpc fun p h => (wp_bind).trans ?_
  refine wpc fun q h => ?_
  rfl
theorem wp_ie {a : IL} {Q : List W × Gu → Hw → Prop} : wp (evI Φ (.enum a) ρ h) Q E = wp (evL Φ a ρ h) (fun p h => Q (((List.range p.1.length).zip p.1).map fun z => .tup [.int (z.1 : Nat), z.2], p.2.1) h) E := by
  rw [evI, wp_bind]
  exact wpc fun p h => rfl
end

/-! operators -/
section
variable {h : Hw} {Q : W → Hw → Prop} {E : Ex → Hw → Prop} {i j k : Int}
theorem if_wp {α : Type} {Q : α → Hw → Prop} {c : Prop} [Decidable c] {r : Res α} : wp (if c then r else .err) Q E = (c ∧ wp r Q E) := by
  by_cases z : c
  · rw [if_pos z]; exact propext ⟨fun q => ⟨z, q⟩, fun q => q.2⟩
  · rw [if_neg z]; exact propext ⟨fun q => q.elim, fun q => z q.1⟩
theorem wb_add : wp (bop .add (.int i) (.int j) h) Q E = Q (.int (i + j)) h := rfl
theorem wb_sub : wp (bop .sub (.int i) (.int j) h) Q E = Q (.int (i - j)) h := rfl
theorem wb_mulR (c : -18446744073709551616 < j ∧ j < 18446744073709551616) : wp (bop .mul (.int i) (.int j) h) Q E = Q (.int (i * j)) h := by
  have : mulOk i j = true := by unfold mulOk; simp; right; omega
  show wp (if _ then _ else _) Q E = _
  rw [if_pos this]; rfl
theorem wb_mulL (c : -18446744073709551616 < i ∧ i < 18446744073709551616) : wp (bop .mul (.int i) (.int j) h) Q E = Q (.int (i * j)) h := by
  have : mulOk i j = true := by unfold mulOk; simp; left; omega
  show wp (if _ then _ else _) Q E = _
  rw [if_pos this]; rfl
theorem divOk_of (c : 0 < j ∧ j < 1000000000000000000000000000000000000000000) : divOk j = true := by
  unfold divOk; simp; omega
theorem wb_div (c : 0 < j ∧ j < 1000000000000000000000000000000000000000000) : wp (bop .fdiv (.int i) (.int j) h) Q E = Q (.int (i / j)) h := by
  show wp (if _ then _ else _) Q E = _
  rw [if_pos (divOk_of c)]; rfl
theorem wb_mod (c : 0 < j) : wp (bop .mod (.int i) (.int j) h) Q E = Q (.int (i % j)) h := by
  show wp (if _ then _ else _) Q E = _
  rw [if_pos c]; rfl
theorem wb_pow (c : (0 ≤ j ∧ j ≤ 1000) ∧ -18446744073709551616 < i ∧ i < 18446744073709551616) : wp (bop .pow (.int i) (.int j) h) Q E = Q (.int (i ^ j.toNat)) h := by
  have : powOk i j = true := by unfold powOk; simp; omega
  show wp (if _ then _ else _) Q E = _
  rw [if_pos this]; rfl
theorem wb_addT {xs ys : List W} : wp (bop .add (.tup xs) (.tup ys) h) Q E = (xs.length + ys.length ≤ 16777216 ∧ Q (.tup (xs ++ ys)) h) := if_wp
theorem wb_mulT {xs : List W} : wp (bop .mul (.tup xs) (.int k) h) Q E = ((xs.length * k.toNat ≤ 1000000 ∧ k ≤ 1000000 ∧ -4611686018427387904 < k) ∧ Q (.tup (List.replicate k.toNat xs).flatten) h) := if_wp
theorem mulT_ok {n : Nat} {k : Int} (a : n ≤ 1000) (b : k ≤ 1000) (c : -4611686018427387904 < k) : n * k.toNat ≤ 1000000 ∧ k ≤ 1000000 ∧ -4611686018427387904 < k :=
  ⟨Nat.mul_le_mul a (show k.toNat ≤ 1000 by omega), by omega, c⟩
theorem wb_addL {p q : Nat} : wp (bop .add (.ref p) (.ref q) h) Q E = wo (lstAt h p) fun xs => wo (lstAt h q) fun ys => xs.length + ys.length ≤ 16777216 ∧ Q (.ref h.length) (h ++ [.lst (xs ++ ys)]) := by
  show wp (match h[p]?, h[q]? with
    | some (.lst xs), some (.lst ys) => if xs.length + ys.length ≤ lim then .ok (.ref h.length) (h ++ [.lst (xs ++ ys)]) else .err
    | _, _ => .err) Q E = _
  unfold lstAt
  cases h[p]? with
  | none => rfl
  | some o => cases o with
    | dic _ _ => rfl
    | dit _ _ => rfl
    | lst xs => cases h[q]? with
      | none => rfl
      | some o => cases o with
        | dic _ _ => rfl
        | dit _ _ => rfl
        | lst ys => exact if_wp
theorem wb_mulLs {p : Nat} : wp (bop .mul (.ref p) (.int k) h) Q E = wo (lstAt h p) fun xs => (xs.length * k.toNat ≤ 16777216 ∧ k < 4611686018427387904 ∧ -4611686018427387904 < k) ∧ Q (.ref h.length) (h ++ [.lst (List.replicate k.toNat xs).flatten]) := by
  show wp (match h[p]? with
    | some (.lst xs) => if xs.length * k.toNat ≤ lim ∧ k < 2 ^ 62 ∧ -(2 ^ 62) < k then .ok (.ref h.length) (h ++ [.lst (List.replicate k.toNat xs).flatten]) else .err
    | _ => .err) Q E = _
  unfold lstAt
  cases h[p]? with
  | none => rfl
  | some o => cases o with
    | dic _ _ => rfl
    | dit _ _ => rfl
    | lst xs => exact if_wp
theorem wn_neg : wp (negW (.int i) h) Q E = Q (.int (-i)) h := rfl
theorem wc_eq {a b : W} : wp (cmp .eq a b h) Q E = wo (eqW a b h) fun k => Q (.bl k) h := by
  show wp (match eqW a b h with | some k => .ok (.bl k) h | none => .err) Q E = _
  cases eqW a b h <;> rfl
theorem wc_ne {a b : W} : wp (cmp .ne a b h) Q E = wo (eqW a b h) fun k => Q (.bl (!k)) h := by
  show wp (match eqW a b h with | some k => .ok (.bl (!k)) h | none => .err) Q E = _
  cases eqW a b h <;> rfl
theorem wc_in {a b : W} : wp (cmp .inn a b h) Q E = wo (inW a b h) fun k => Q (.bl k) h := by
  show wp (match inW a b h with | some k => .ok (.bl k) h | none => .err) Q E = _
  cases inW a b h <;> rfl
theorem wc_nin {a b : W} : wp (cmp .nin a b h) Q E = wo (inW a b h) fun k => Q (.bl (!k)) h := by
  show wp (match inW a b h with | some k => .ok (.bl (!k)) h | none => .err) Q E = _
  cases inW a b h <;> rfl
theorem mt_ix {p : Nat} {v : W} : wp (mt .index (.ref p) [v] h) Q E = wo (ixW v (.ref p) h) fun k => Q (.int k) h := by
  show wp (match ixW v (.ref p) h with | some k => .ok (.int k) h | none => .err) Q E = _
  cases ixW v (.ref p) h <;> rfl
theorem wc_lt : wp (cmp .lt (.int i) (.int j) h) Q E = Q (.bl (decide (i < j))) h := rfl
theorem wc_le : wp (cmp .le (.int i) (.int j) h) Q E = Q (.bl (decide (i ≤ j))) h := rfl
theorem wc_gt : wp (cmp .gt (.int i) (.int j) h) Q E = Q (.bl (decide (j < i))) h := rfl
theorem wc_ge : wp (cmp .ge (.int i) (.int j) h) Q E = Q (.bl (decide (j ≤ i))) h := rfl
def isNon : W → Bool | .non => true | _ => false
theorem wc_isN {a b : W} : wp (cmp .isN a b h) Q E = Q (.bl (isNon a)) h := by cases a <;> rfl
theorem wc_notN {a b : W} : wp (cmp .notN a b h) Q E = Q (.bl (!isNon a)) h := by cases a <;> rfl
theorem isNon_non : isNon .non = true := rfl
theorem isNon_bl {b : Bool} : isNon (.bl b) = false := rfl
theorem isNon_int : isNon (.int i) = false := rfl
theorem isNon_str {x : Str} : isNon (.str x) = false := rfl
theorem isNon_tup {xs : List W} : isNon (.tup xs) = false := rfl
theorem isNon_fl {xs : List W} : isNon (.fl xs) = false := rfl
theorem isNon_ref {n : Nat} : isNon (.ref n) = false := rfl
theorem eqv_int (i j : Int) : PyData.eqv (.int i) (.int j) = decide (i = j) := by
  unfold PyData.eqv; rfl
theorem eqW_int : eqW (.int i) (.int j) h = some (decide (i = j)) := by
  show (if (PyData.int i).depth ≤ 64 ∧ (PyData.int j).depth ≤ 64 then some (PyData.eqv (.int i) (.int j)) else none) = _
  rw [if_pos (by constructor <;> simp [PyData.depth]), eqv_int]
theorem eqW_bl {a b : Bool} : eqW (.bl a) (.bl b) h = some (decide (a = b)) := by
  cases a <;> cases b <;> rfl
theorem tr_non : truth .non h = some false := rfl
theorem tr_bl {b : Bool} : truth (.bl b) h = some b := rfl
theorem tr_int : truth (.int i) h = some (i != 0) := rfl
theorem tr_tup {xs : List W} : truth (.tup xs) h = some (!xs.isEmpty) := rfl
theorem item_int {a : W} : wp (item a (.int k) h) Q E = wo (seqOf h a) fun xs => wo (ixN xs.length k) fun j => wo (xs[j]?) fun v => Q v h := by
  show wp (match seqOf h a with
    | some xs => match ixN xs.length k with
      | some j => match xs[j]? with
        | some v => .ok v h
        | none => .err
      | none => .err
    | none => .err) Q E = _
  cases seqOf h a with
  | none => rfl
  | some xs =>
    simp only [wo_some]
    cases ixN xs.length k with
    | none => rfl
    | some j =>
      simp only [wo_some]
      cases xs[j]? <;> rfl
theorem ixN_in {n : Nat} (c : 0 ≤ k ∧ k < n) : ixN n k = some k.toNat := by
  unfold ixN; rw [if_pos c.1, if_pos c.2]
theorem ixN_neg {n : Nat} (c : k < 0 ∧ -(n : Int) ≤ k) : ixN n k = some (k + n).toNat := by
  unfold ixN; rw [if_neg (by omega), if_pos c.2]
theorem sl_tup {xs : List W} {lo hi : Option Int} : wp (slice (.tup xs) lo hi h) Q E = Q (.tup (cut xs lo hi)) h := rfl
theorem sl_ref {n : Nat} {lo hi : Option Int} : wp (slice (.ref n) lo hi h) Q E = wo (lstAt h n) fun xs => Q (.ref h.length) (h ++ [.lst (cut xs lo hi)]) := by
  show wp (match h[n]? with
    | some (.lst xs) => .ok (.ref h.length) (h ++ [.lst (cut xs lo hi)])
    | _ => .err) Q E = _
  unfold lstAt
  cases h[n]? with
  | none => rfl
  | some o => cases o <;> rfl
theorem bi_len {a : W} : wp (bi .len [a] h) Q E = wo (seqOf h a) fun xs => Q (.int xs.length) h := by
  show wp (match seqOf h a with | some xs => .ok (.int xs.length) h | none => .err) Q E = _
  cases seqOf h a <;> rfl
theorem bi_abs : wp (bi .abs [.int i] h) Q E = Q (.int (if i < 0 then -i else i)) h := rfl
theorem bi_int : wp (bi .toInt [.int i] h) Q E = Q (.int i) h := rfl
theorem bi_intb {b : Bool} : wp (bi .toInt [.bl b] h) Q E = Q (.int (if b then 1 else 0)) h := rfl
theorem bi_isI {a : W} {t : Ty} : wp (bi (.isI t) [a] h) Q E = wo (isTy a t h) fun k => Q (.bl k) h := by
  show wp (match isTy a t h with | some k => .ok (.bl k) h | none => .err) Q E = _
  cases isTy a t h <;> rfl
theorem bi_max : wp (bi .max2 [.int i, .int j] h) Q E = Q (.int (max i j)) h := by
  show Q (.int (if j > i then j else i)) h = Q (.int (max i j)) h
  congr 2; split <;> omega
theorem bi_min : wp (bi .min2 [.int i, .int j] h) Q E = Q (.int (min i j)) h := by
  show Q (.int (if j < i then j else i)) h = Q (.int (min i j)) h
  congr 2; split <;> omega
theorem bi_divmod (c : 0 < j ∧ j < 1000000000000000000000000000000000000000000) : wp (bi .divmod [.int i, .int j] h) Q E = Q (.tup [.int (i / j), .int (i % j)]) h := by
  show wp (if _ then _ else _) Q E = _
  rw [if_pos (divOk_of c)]; rfl
theorem bi_lcm (c : (0 ≤ i ∧ i < 18446744073709551616) ∧ 0 ≤ j ∧ j < 18446744073709551616) : wp (bi .lcm [.int i, .int j] h) Q E = Q (.int ((i.natAbs.lcm j.natAbs : Nat) : Int)) h := by
  show wp (if _ then _ else _) Q E = _
  rw [if_pos (by omega)]; rfl
theorem bi_gcd : wp (bi .gcd [.int i, .int j] h) Q E = Q (.int ((i.natAbs.gcd j.natAbs : Nat) : Int)) h := rfl
theorem bl_sum {xs : List W} : wp (bl .sum xs h) Q E = wo (toInts xs) fun ns => Q (.int ns.sum) h := by
  show wp (match toInts xs with | some ns => .ok (.int ns.sum) h | none => .err) Q E = _
  cases toInts xs <;> rfl
theorem bl_tuple {xs : List W} : wp (bl .tuple xs h) Q E = Q (.tup xs) h := rfl
theorem bl_list {xs : List W} : wp (bl .list xs h) Q E = Q (.ref h.length) (h ++ [.lst xs]) := rfl
theorem bl_len {xs : List W} : wp (bl .len xs h) Q E = Q (.int xs.length) h := rfl
theorem bl_max {xs : List W} : wp (bl .max xs h) Q E = wo (toInts xs) fun ns => ns ≠ [] ∧ Q (.int (maxL ns)) h := by
  show wp (match toInts xs with | some (n :: ns) => .ok (.int (maxL (n :: ns))) h | _ => .err) Q E = _
  cases toInts xs with
  | none => rfl
  | some ns => cases ns with
    | nil => exact propext ⟨fun q => q.elim, fun q => q.1 rfl⟩
    | cons n ns => exact propext ⟨fun q => ⟨by simp, q⟩, fun q => q.2⟩
theorem bl_min {xs : List W} : wp (bl .min xs h) Q E = wo (toInts xs) fun ns => ns ≠ [] ∧ Q (.int (minL ns)) h := by
  show wp (match toInts xs with | some (n :: ns) => .ok (.int (minL (n :: ns))) h | _ => .err) Q E = _
  cases toInts xs with
  | none => rfl
  | some ns => cases ns with
    | nil => exact propext ⟨fun q => q.elim, fun q => q.1 rfl⟩
    | cons n ns => exact propext ⟨fun q => ⟨by simp, q⟩, fun q => q.2⟩
theorem mt_app {p : Nat} {v : W} : wp (mt .append (.ref p) [v] h) Q E = wo (lstAt h p) fun xs => xs.length < 16777216 ∧ Q .non (h.set p (.lst (xs ++ [v]))) := by
  show wp (match h[p]? with
    | some (.lst xs) => if xs.length < lim then .ok .non (h.set p (.lst (xs ++ [v]))) else .err
    | _ => .err) Q E = _
  unfold lstAt
  cases h[p]? with
  | none => rfl
  | some o => cases o with
    | dic _ _ => rfl
    | dit _ _ => rfl
    | lst xs => exact if_wp
theorem mt_extT {p : Nat} {ys : List W} : wp (mt .extend (.ref p) [.tup ys] h) Q E = wo (lstAt h p) fun xs => xs.length + ys.length ≤ 16777216 ∧ Q .non (h.set p (.lst (xs ++ ys))) := by
  show wp (match h[p]? with
    | some (.lst xs) => if xs.length + ys.length ≤ lim then .ok .non (h.set p (.lst (xs ++ ys))) else .err
    | _ => .err) Q E = _
  unfold lstAt
  cases h[p]? with
  | none => rfl
  | some o => cases o with
    | lst xs =>
      by_cases c : xs.length + ys.length ≤ 16777216
      · have c' : xs.length + ys.length ≤ lim := c
        simp [c, c', wp_ok, wo]
      · have c' : ¬ xs.length + ys.length ≤ lim := c
        simp [c, c', wp_err, wo]
    | _ => rfl
theorem mt_ext {p q : Nat} : wp (mt .extend (.ref p) [.ref q] h) Q E = wo (lstAt h p) fun xs => wo (lstAt h q) fun ys => xs.length + ys.length ≤ 16777216 ∧ Q .non (h.set p (.lst (xs ++ ys))) := by
  show wp (match h[p]?, h[q]? with
    | some (.lst xs), some (.lst ys) => if xs.length + ys.length ≤ lim then .ok .non (h.set p (.lst (xs ++ ys))) else .err
    | _, _ => .err) Q E = _
  unfold lstAt
  cases h[p]? with
  | none => rfl
  | some o => cases o with
    | dic _ _ => rfl
    | dit _ _ => rfl
    | lst xs => cases h[q]? with
      | none => rfl
      | some o => cases o with
        | dic _ _ => rfl
        | dit _ _ => rfl
        | lst ys => exact if_wp
theorem mt_rev {p : Nat} : wp (mt .reverse (.ref p) [] h) Q E = wo (lstAt h p) fun xs => Q .non (h.set p (.lst xs.reverse)) := by
  show wp (match h[p]? with
    | some (.lst xs) => .ok .non (h.set p (.lst xs.reverse))
    | _ => .err) Q E = _
  unfold lstAt
  cases h[p]? with
  | none => rfl
  | some o => cases o <;> rfl
theorem mt_pp {p : Nat} : wp (mt .pop (.ref p) [] h) Q E = wo (lstAt h p) fun xs => wo (xs[xs.length - 1]?) fun v => Q v (h.set p (.lst xs.dropLast)) := by
  show wp (match h[p]? with
    | some (.lst xs) => match xs[xs.length - 1]? with
      | some v => .ok v (h.set p (.lst xs.dropLast))
      | none => .err
    | _ => .err) Q E = _
  unfold lstAt
  cases h[p]? with
  | none => rfl
  | some o => cases o with
    | dic _ _ => rfl
    | dit _ _ => rfl
    | lst xs =>
      simp only [wo_some]
      cases xs[xs.length - 1]? <;> rfl
theorem mt_ppA {p : Nat} : wp (mt .popAt (.ref p) [.int i] h) Q E = ((-4611686018427387904 ≤ i ∧ i < 4611686018427387904) ∧ wo (lstAt h p) fun xs => wo (ixN xs.length i) fun k => wo (xs[k]?) fun v => Q v (h.set p (.lst (xs.eraseIdx k)))) := by
  show wp (if -(2 ^ 62) ≤ i ∧ i < 2 ^ 62 then match h[p]? with
    | some (.lst xs) => match ixN xs.length i with
      | some k => match xs[k]? with
        | some v => .ok v (h.set p (.lst (xs.eraseIdx k)))
        | none => .err
      | none => .err
    | _ => .err
    else .err) Q E = _
  rw [if_wp]
  congr 1
  unfold lstAt
  cases h[p]? with
  | none => rfl
  | some o => cases o with
    | dic _ _ => rfl
    | dit _ _ => rfl
    | lst xs =>
      simp only [wo_some]
      cases ixN xs.length i with
      | none => rfl
      | some k =>
        simp only [wo_some]
        cases xs[k]? <;> rfl
theorem mtW_ref {n : Nat} : mtW (.ref n) h = lstAt h n := rfl
end

/-! statements -/
section
variable {Φ : Fn} {ρ : En} {h : Hw} {Q : Fl → En → Hw → Prop}
def sq (Φ : Fn) (ss : ISs) (Q : Fl → En → Hw → Prop) : Fl → En → Hw → Prop
  | .next, ρ, h => wps (evSs Φ ss ρ h) Q
  | f, ρ, h => Q f ρ h
theorem sq_n {ss : ISs} : sq Φ ss Q .next ρ h = wps (evSs Φ ss ρ h) Q := rfl
theorem sq_b {ss : ISs} : sq Φ ss Q .brk ρ h = Q .brk ρ h := rfl
theorem sq_c {ss : ISs} : sq Φ ss Q .cont ρ h = Q .cont ρ h := rfl
theorem sq_r {ss : ISs} {w : W} : sq Φ ss Q (.ret w) ρ h = Q (.ret w) ρ h := rfl
theorem sq_z {ss : ISs} {e : Ex} : sq Φ ss Q (.rz e) ρ h = Q (.rz e) ρ h := rfl
theorem ws_n : wps (evSs Φ .nil ρ h) Q = Q .next ρ h := by rw [evSs]; rfl
theorem ws_c {s : IS} {ss : ISs} : wps (evSs Φ (.cons s ss) ρ h) Q = wps (evS Φ s ρ h) (sq Φ ss Q) := by
  rw [evSs]
  cases evS Φ s ρ h with
  | err => rfl
  | exc _ _ => rfl
  | ok q h => obtain ⟨f, ρ⟩ := q; cases f <;> rfl
theorem ws_expr {e : IE} : wps (evS Φ (.expr e) ρ h) Q = wp (evE Φ e ρ h) (fun _ h => Q .next ρ h) fun e h => Q (.rz e) ρ h := by rw [evS, wps_st]; rfl
theorem ws_asg {t : IG} {e : IE} : wps (evS Φ (.asg t e) ρ h) Q = wp (evE Φ e ρ h) (fun x h => wo (asg t x ρ) fun ρ' => Q .next ρ' h) fun e h => Q (.rz e) ρ h := by
  rw [evS, wps_st]
  refine wpc fun x h => ?_
  cases asg t x ρ <;> rfl
theorem ws_set {o i e : IE} : wps (evS Φ (.set o i e) ρ h) Q = wp (evE Φ e ρ h) (fun v h => wp (evE Φ o ρ h) (fun x h => wp (evE Φ i ρ h) (fun y h => wo (setIt x y v h) fun h' => Q .next ρ h') fun e h => Q (.rz e) ρ h) fun e h => Q (.rz e) ρ h) fun e h => Q (.rz e) ρ h := by
  rw [evS, wps_st]
  refine wpc fun v h => ?_
  rw [wps_st]
  refine wpc fun x h => ?_
  rw [wps_st]
  refine wpc fun y h => ?_
  cases setIt x y v h <;> rfl
theorem ws_bad : wps (evS Φ .bad ρ h) Q = False := by
  rw [evS]
  rfl
theorem itemL_wp {x y : W} {E : Ex → Hw → Prop} {Q : W → Hw → Prop} : wp (itemL x y h) Q E = wo (match x, y with | .ref p, .int k => (match lstAt h p with | some xs => if 0 ≤ k then xs[k.toNat]? else none | none => none) | _, _ => none) fun v => Q v h := by
  cases x <;> cases y <;> try rfl
  rename_i p k
  show wp (match h[p]? with
      | some (.lst xs) => if 0 ≤ k then (match xs[k.toNat]? with | some v => Res.ok v h | none => .err) else .err
      | _ => .err) Q E = wo (match lstAt h p with | some xs => if 0 ≤ k then xs[k.toNat]? else none | none => none) fun v => Q v h
  unfold lstAt
  cases h[p]? with
  | none => rfl
  | some o => cases o with
    | dic _ _ => rfl
    | dit _ _ => rfl
    | lst xs =>
      dsimp only
      by_cases c : 0 ≤ k
      · rw [if_pos c, if_pos c]
        cases xs[k.toNat]? <;> rfl
      · rw [if_neg c, if_neg c]; rfl
theorem ws_augS {o i e : IE} {p : Bop} : wps (evS Φ (.augS o i p e) ρ h) Q = wp (evE Φ o ρ h) (fun x h => wp (evE Φ i ρ h) (fun y h => wp (itemL x y h) (fun w h => wp (evE Φ e ρ h) (fun v h => wo (augO p w v) fun z => wo (setIt x y z h) fun h' => Q .next ρ h') fun e h => Q (.rz e) ρ h) fun e h => Q (.rz e) ρ h) fun e h => Q (.rz e) ρ h) fun e h => Q (.rz e) ρ h := by
  rw [evS, wps_st]
  refine wpc fun x h => ?_
  rw [wps_st]
  refine wpc fun y h => ?_
  rw [wps_st]
  refine wpc fun w h => ?_
  rw [wps_st]
  refine wpc fun v h => ?_
  cases augO p w v with
  | none => rfl
  | some z =>
    dsimp only [wo]
    cases setIt x y z h <;> rfl
theorem itemL_ref {p : Nat} {k : Int} {xs : List W} {E : Ex → Hw → Prop} {Q : W → Hw → Prop} (e : lstAt h p = some xs) (hk : 0 ≤ k) : wp (itemL (.ref p) (.int k) h) Q E = wo (xs[k.toNat]?) fun v => Q v h := by
  rw [itemL_wp]
  dsimp only
  rw [e]
  dsimp only
  rw [if_pos hk]
theorem augO_a {a b : Int} : augO .add (.int a) (.int b) = some (.int (a + b)) := rfl
theorem augO_s {a b : Int} : augO .sub (.int a) (.int b) = some (.int (a - b)) := rfl
def augW (o : Bop) (x y : W) : Option W := match o, x, y with
  | .add, .int a, .int b => some (.int (a + b))
  | .sub, .int a, .int b => some (.int (a - b))
  | _, _, _ => none
theorem aug_add {a b : Int} : augW .add (.int a) (.int b) = some (.int (a + b)) := rfl
theorem aug_sub {a b : Int} : augW .sub (.int a) (.int b) = some (.int (a - b)) := rfl
theorem ws_aug {i : Nat} {o : Bop} {e : IE} : wps (evS Φ (.aug i o e) ρ h) Q = wo (look ρ i) fun x => wp (evE Φ e ρ h) (fun y h => wo (augW o x y) fun w => Q .next (ρ.set i (some w)) h) fun e h => Q (.rz e) ρ h := by
  rw [evS]
  unfold look
  cases ρ[i]? with
  | none => rfl
  | some z => cases z with
    | none => rfl
    | some x =>
      dsimp only [wo]
      rw [wps_st]
      refine wpc fun y h => ?_
      cases o <;> cases x <;> try rfl
      all_goals cases y <;> rfl
theorem ws_if {c : IT} {a b : ISs} : wps (evS Φ (.ifs c a b) ρ h) Q = wp (evT Φ c ρ h) (fun k h => br k (wps (evSs Φ a ρ h) Q) (wps (evSs Φ b ρ h) Q)) fun e h => Q (.rz e) ρ h := by
  rw [evS, wps_st]
  refine wpc fun k h => ?_
  cases k <;> rfl
theorem ws_for {t : IG} {it : II} {b : ISs} : wps (evS Φ (.for t it b) ρ h) Q = wp (evI Φ it ρ h) (fun q h => wps (forL t q.2 (fun ρ h => evSs Φ b ρ h) q.1 ρ h) Q) fun e h => Q (.rz e) ρ h := by
  rw [evS, wps_st]
theorem ws_whl {c : IT} {b : ISs} : wps (evS Φ (.whl c b) ρ h) Q = wps (whl (fun ρ h => evT Φ c ρ h) (fun ρ h => evSs Φ b ρ h) ρ h) Q := by rw [evS]
theorem ws_ret {e : IE} : wps (evS Φ (.ret e) ρ h) Q = wp (evE Φ e ρ h) (fun x h => Q (.ret x) ρ h) fun e h => Q (.rz e) ρ h := by rw [evS, wps_st]; rfl
theorem ws_retN : wps (evS Φ .retN ρ h) Q = Q (.ret .non) ρ h := by rw [evS]; rfl
theorem ws_brk : wps (evS Φ .brk ρ h) Q = Q .brk ρ h := by rw [evS]; rfl
theorem ws_cont : wps (evS Φ .cont ρ h) Q = Q .cont ρ h := by rw [evS]; rfl
theorem ws_pass : wps (evS Φ .pass ρ h) Q = Q .next ρ h := by rw [evS]; rfl
theorem ws_rz {i : Nat} : wps (evS Φ (.rz i) ρ h) Q = Q (.rz ⟨i, []⟩) ρ h := by rw [evS]; rfl
/-- behind the body of a try -/
def tq (Φ : Fn) (i : Nat) (s : ISs) (Q : Fl → En → Hw → Prop) : Fl → En → Hw → Prop
  | .rz e, ρ, h => (e.cls = i ∧ e.args = []) ∧ wps (evSs Φ s ρ h) Q
  | f, ρ, h => Q f ρ h
theorem tq_n {i : Nat} {s : ISs} : tq Φ i s Q .next ρ h = Q .next ρ h := rfl
theorem tq_b {i : Nat} {s : ISs} : tq Φ i s Q .brk ρ h = Q .brk ρ h := rfl
theorem tq_c {i : Nat} {s : ISs} : tq Φ i s Q .cont ρ h = Q .cont ρ h := rfl
theorem tq_r {i : Nat} {s : ISs} {w : W} : tq Φ i s Q (.ret w) ρ h = Q (.ret w) ρ h := rfl
theorem tq_z {i : Nat} {s : ISs} {e : Ex} : tq Φ i s Q (.rz e) ρ h = ((e.cls = i ∧ e.args = []) ∧ wps (evSs Φ s ρ h) Q) := rfl
theorem tq_zi {i j : Nat} {s : ISs} : tq Φ i s Q (.rz ⟨j, []⟩) ρ h = (j = i ∧ wps (evSs Φ s ρ h) Q) := by
  show ((j = i ∧ ([] : List W) = []) ∧ _) = _
  simp
theorem ws_try {b s : ISs} {i : Nat} : wps (evS Φ (.tryE b i s) ρ h) Q = wps (evSs Φ b ρ h) (tq Φ i s Q) := by
  rw [evS]
  cases e : evSs Φ b ρ h with
  | ok q h' =>
    obtain ⟨f, ρ'⟩ := q
    cases f with
    | rz x =>
      show wps (if x.cls = i ∧ x.args = [] then evSs Φ s ρ' h' else .err) Q = ((x.cls = i ∧ x.args = []) ∧ wps (evSs Φ s ρ' h') Q)
      by_cases c : x.cls = i ∧ x.args = []
      · rw [if_pos c]; exact propext ⟨fun z => ⟨c, z⟩, fun z => z.2⟩
      · rw [if_neg c]; exact propext ⟨fun z => z.elim, fun z => c z.1⟩
    | _ => rfl
  | exc x h' => rfl
  | err => rfl
/-- behind the body of a try whose suite names its exception -/
def tqa (Φ : Fn) (i x : Nat) (s : ISs) (Q : Fl → En → Hw → Prop) : Fl → En → Hw → Prop
  | .rz e, ρ, h => ((e.cls = i ∧ e.args = []) ∧ x < ρ.length) ∧ wps (evSs Φ s (ρ.set x none) h) (fun f ρ h => Q f (ρ.set x none) h)
  | f, ρ, h => Q f ρ h
theorem tqa_n {i x : Nat} {s : ISs} : tqa Φ i x s Q .next ρ h = Q .next ρ h := rfl
theorem tqa_b {i x : Nat} {s : ISs} : tqa Φ i x s Q .brk ρ h = Q .brk ρ h := rfl
theorem tqa_c {i x : Nat} {s : ISs} : tqa Φ i x s Q .cont ρ h = Q .cont ρ h := rfl
theorem tqa_r {i x : Nat} {s : ISs} {w : W} : tqa Φ i x s Q (.ret w) ρ h = Q (.ret w) ρ h := rfl
theorem tqa_zi {i j x : Nat} {s : ISs} : tqa Φ i x s Q (.rz ⟨j, []⟩) ρ h = ((j = i ∧ x < ρ.length) ∧ wps (evSs Φ s (ρ.set x none) h) (fun f ρ h => Q f (ρ.set x none) h)) := by
  show ((((j = i ∧ ([] : List W) = []) ∧ _)) ∧ _) = _
  simp
theorem ws_tryA {b s : ISs} {i x : Nat} : wps (evS Φ (.tryA b i x s) ρ h) Q = wps (evSs Φ b ρ h) (tqa Φ i x s Q) := by
  rw [evS]
  cases e : evSs Φ b ρ h with
  | ok q h' =>
    obtain ⟨f, ρ'⟩ := q
    cases f with
    | rz y =>
      show wps (if (y.cls = i ∧ y.args = []) ∧ x < ρ'.length then _ else .err) Q = (((y.cls = i ∧ y.args = []) ∧ x < ρ'.length) ∧ wps (evSs Φ s (ρ'.set x none) h') (fun f ρ h => Q f (ρ.set x none) h))
      by_cases c : (y.cls = i ∧ y.args = []) ∧ x < ρ'.length
      · rw [if_pos c]
        refine Eq.trans ?_ (propext ⟨fun z => ⟨c, z⟩, fun z => z.2⟩)
        cases e2 : evSs Φ s (ρ'.set x none) h' with
        | ok q2 h2 => rfl
        | exc u h2 => rfl
        | err => rfl
      · rw [if_neg c]; exact propext ⟨fun z => z.elim, fun z => c z.1⟩
    | _ => rfl
  | exc x h' => rfl
  | err => rfl
theorem asg_var {i : Nat} {w : W} : asg (.var i) w ρ = some (ρ.set i (some w)) := by rw [asg]
theorem asg_tup2 {i j : Nat} {x y : W} : asg (.tup [.var i, .var j]) (.tup [x, y]) ρ = some ((ρ.set i (some x)).set j (some y)) := by
  rw [asg]; simp [asgs, asg]
theorem asg_tup3 {i j k : Nat} {x y z : W} : asg (.tup [.var i, .var j, .var k]) (.tup [x, y, z]) ρ = some (((ρ.set i (some x)).set j (some y)).set k (some z)) := by
  rw [asg]; simp [asgs, asg]
theorem setIt_ref {p : Nat} {k : Int} {v : W} {Q : Hw → Prop} : wo (setIt (.ref p) (.int k) v h) Q = wo (lstAt h p) fun xs => wo (ixN xs.length k) fun j => Q (h.set p (.lst (xs.set j v))) := by
  show wo (match h[p]? with
    | some (.lst xs) => match ixN xs.length k with
      | some j => some (h.set p (.lst (xs.set j v)))
      | none => none
    | _ => none) Q = _
  unfold lstAt
  cases h[p]? with
  | none => rfl
  | some o => cases o with
    | dic _ _ => rfl
    | dit _ _ => rfl
    | lst xs =>
      simp only [wo_some]
      cases ixN xs.length k <;> rfl
end
end Ev

set_option Elab.async false
set_option linter.all false
set_option maxRecDepth 100000
/-! Wp2: loops, calls. -/
namespace Ev
open PySem

theorem guard_go {α : Type} {g : Gu} {h : Hw} {r : Res α} (c : guOk g h) : guard g h r = r := by unfold guard; rw [if_pos c]
theorem guOk_nil {h : Hw} : guOk [] h := fun p hp => by simp at hp
theorem guOk_one {h : Hw} {n : Nat} {xs : List W} (e : lstAt h n = some xs) : guOk [(n, xs)] h := fun p hp => by
  rw [List.mem_singleton.mp hp]; exact lstAt_get e

section
variable {α : Type}
/-- a loop over the items f a of a list of things a; I: what holds when `pre` is done -/
theorem wps_for (f : α → W) (as : List α) {t : IG} {gu : Gu} {body : En → Hw → Rs} {Q : Fl → En → Hw → Prop} (I : List α → En → Hw → Prop)
    (hg : ∀ pre ρ h, I pre ρ h → guOk gu h)
    (step : ∀ pre a suf ρ h, as = pre ++ a :: suf → I pre ρ h → wo (asg t (f a) ρ) fun ρ' => wps (body ρ' h) fun fl ρ h => match fl with
      | .next => I (pre ++ [a]) ρ h
      | .cont => I (pre ++ [a]) ρ h
      | .brk => Q .next ρ h
      | .ret w => Q (.ret w) ρ h
      | .rz e => Q (.rz e) ρ h)
    {ρ : En} {h : Hw} (i0 : I [] ρ h) (fin : ∀ ρ h, I as ρ h → Q .next ρ h) : wps (forL t gu body (as.map f) ρ h) Q := by
  have : ∀ (suf pre : List α) (ρ : En) (h : Hw), as = pre ++ suf → I pre ρ h → wps (forL t gu body (suf.map f) ρ h) Q := by
    intro suf
    induction suf with
    | nil =>
      intro pre ρ h e i
      rw [List.append_nil] at e
      subst e
      rw [List.map_nil, forL, guard_go (hg _ _ _ i)]
      exact fin _ _ i
    | cons a suf ih =>
      intro pre ρ h e i
      rw [List.map_cons, forL, guard_go (hg _ _ _ i)]
      have s := step pre a suf ρ h e i
      cases ea : asg t (f a) ρ with
      | none => rw [ea] at s; exact s.elim
      | some ρ' =>
        rw [ea] at s
        dsimp only
        cases eb : body ρ' h with
        | err => rw [wo_some, eb] at s; exact s.elim
        | exc _ _ => rw [wo_some, eb] at s; exact s.elim
        | ok q h2 =>
          obtain ⟨fl, ρ2⟩ := q
          rw [wo_some, eb] at s
          cases fl with
          | next => exact ih (pre ++ [a]) _ _ (by rw [e]; simp) s
          | cont => exact ih (pre ++ [a]) _ _ (by rw [e]; simp) s
          | brk => exact s
          | ret w => exact s
          | rz e => exact s
  exact this as [] ρ h rfl i0
theorem rng_map (lo : Int) (n : Nat) : rng lo n = (List.range n).map fun (i : Nat) => W.int (lo + (i : Int)) := rfl
theorem range_split {n a : Nat} {pre suf : List Nat} (e : List.range n = pre ++ a :: suf) : pre = List.range a ∧ a < n := by
  have hl : pre.length < n := by
    have := congrArg List.length e; simp at this; omega
  have h1 : (List.range n)[pre.length]? = some a := by rw [e, List.getElem?_append_right (Nat.le_refl _)]; simp
  rw [List.getElem?_range hl] at h1
  have h2 : a = pre.length := by simpa using h1.symm
  refine ⟨?_, by omega⟩
  have : (List.range n).take pre.length = pre := by rw [e, List.take_left]
  rw [← this, h2, List.take_range]
  congr 1; omega
/-- a loop over a range; I: what holds when the first i are done -/
theorem wps_rng {lo : Int} {n : Nat} {t : IG} {body : En → Hw → Rs} {Q : Fl → En → Hw → Prop} (I : Nat → En → Hw → Prop)
    (step : ∀ i ρ h, i < n → I i ρ h → wo (asg t (.int (lo + (i : Int))) ρ) fun ρ' => wps (body ρ' h) fun fl ρ h => match fl with
      | .next => I (i + 1) ρ h
      | .cont => I (i + 1) ρ h
      | .brk => Q .next ρ h
      | .ret w => Q (.ret w) ρ h
      | .rz e => Q (.rz e) ρ h)
    {ρ : En} {h : Hw} (i0 : I 0 ρ h) (fin : ∀ ρ h, I n ρ h → Q .next ρ h) : wps (forL t [] body (rng lo n) ρ h) Q := by
  rw [rng_map]
  refine wps_for (fun (i : Nat) => W.int (lo + (i : Int))) (List.range n) (fun pre ρ h => I pre.length ρ h) (fun _ _ _ _ => guOk_nil) (fun pre a suf ρ h e i => ?_) i0 (fun ρ h i => fin ρ h (by simpa using i))
  obtain ⟨e1, e2⟩ := range_split e
  have e3 : pre.length = a := by rw [e1]; simp
  have s := step a ρ h e2 (e3 ▸ i)
  cases ea : asg t (W.int (lo + (a : Int))) ρ with
  | none => rw [ea] at s; exact s
  | some ρ' =>
    rw [ea] at s
    refine wps_mono (show wps (body ρ' h) _ from s) (fun fl ρ h q => ?_)
    cases fl <;> first | exact q | (rw [List.length_append, e3]; exact q)
theorem rngd_map (lo : Int) (n : Nat) : rngd lo n = (List.range n).map fun (i : Nat) => W.int (lo - (i : Int)) := rfl
/-- a loop over a range backwards -/
theorem wps_rngd {lo : Int} {n : Nat} {t : IG} {body : En → Hw → Rs} {Q : Fl → En → Hw → Prop} (I : Nat → En → Hw → Prop)
    (step : ∀ i ρ h, i < n → I i ρ h → wo (asg t (.int (lo - (i : Int))) ρ) fun ρ' => wps (body ρ' h) fun fl ρ h => match fl with
      | .next => I (i + 1) ρ h
      | .cont => I (i + 1) ρ h
      | .brk => Q .next ρ h
      | .ret w => Q (.ret w) ρ h
      | .rz e => Q (.rz e) ρ h)
    {ρ : En} {h : Hw} (i0 : I 0 ρ h) (fin : ∀ ρ h, I n ρ h → Q .next ρ h) : wps (forL t [] body (rngd lo n) ρ h) Q := by
  rw [rngd_map]
  refine wps_for (fun (i : Nat) => W.int (lo - (i : Int))) (List.range n) (fun pre ρ h => I pre.length ρ h) (fun _ _ _ _ => guOk_nil) (fun pre a suf ρ h e i => ?_) i0 (fun ρ h i => fin ρ h (by simpa using i))
  obtain ⟨e1, e2⟩ := range_split e
  have e3 : pre.length = a := by rw [e1]; simp
  have s := step a ρ h e2 (e3 ▸ i)
  cases ea : asg t (W.int (lo - (a : Int))) ρ with
  | none => rw [ea] at s; exact s
  | some ρ' =>
    rw [ea] at s
    refine wps_mono (show wps (body ρ' h) _ from s) (fun fl ρ h q => ?_)
    cases fl <;> first | exact q | (rw [List.length_append, e3]; exact q)
/-- a comprehension from a list so far -/
theorem wp_compA (f : α → W) (as : List α) {g : IG} {gu : Gu} {test : En → Hw → Res Bool} {elt : En → Hw → Res W} {own : List Nat} {ρ : En} {Q : List W → Hw → Prop} {E : Ex → Hw → Prop} (I : List α → Hw → List W → Prop)
    (hg : ∀ pre h acc, I pre h acc → guOk gu h)
    (step : ∀ pre a suf h acc, as = pre ++ a :: suf → I pre h acc → wo (asg g (f a) (wipe ρ own)) fun ρ' => wp (test ρ' h) (fun k h => br k (wp (elt ρ' h) (fun y h => acc.length < 16777216 ∧ I (pre ++ [a]) h (acc ++ [y])) noE) (I (pre ++ [a]) h acc)) noE)
    {h : Hw} {acc0 : List W} (i0 : I [] h acc0) (fin : ∀ h acc, I as h acc → Q acc h) : wp (compL g gu test elt own ρ (as.map f) h acc0) Q E := by
  have : ∀ (suf pre : List α) (h : Hw) (acc : List W), as = pre ++ suf → I pre h acc → wp (compL g gu test elt own ρ (suf.map f) h acc) Q E := by
    intro suf
    induction suf with
    | nil =>
      intro pre h acc e i
      rw [List.append_nil] at e
      subst e
      rw [List.map_nil, compL, guard_go (hg _ _ _ i)]
      exact fin _ _ i
    | cons a suf ih =>
      intro pre h acc e i
      rw [List.map_cons, compL, guard_go (hg _ _ _ i)]
      have s := step pre a suf h acc e i
      cases ea : asg g (f a) (wipe ρ own) with
      | none => rw [ea] at s; exact s.elim
      | some ρ' =>
        rw [ea, wo_some] at s
        dsimp only
        cases et : test ρ' h with
        | err => rw [et] at s; exact s.elim
        | exc _ _ => rw [et] at s; exact s.elim
        | ok k h1 =>
          rw [et, wp_ok] at s
          cases k with
          | false => exact ih (pre ++ [a]) _ _ (by rw [e]; simp) s
          | true =>
            dsimp only
            rw [br_t] at s
            cases ee : elt ρ' h1 with
            | err => rw [ee] at s; exact s.elim
            | exc _ _ => rw [ee] at s; exact s.elim
            | ok y h2 =>
              rw [ee, wp_ok] at s
              dsimp only
              rw [if_pos (show acc.length < lim from s.1)]
              exact ih (pre ++ [a]) _ _ (by rw [e]; simp) s.2
  exact this as [] h acc0 rfl i0
/-- two for: the outer turns -/
theorem wp_comp2 (f : α → W) (as : List α) {g : IG} {gu : Gu} {test : En → Hw → Res Bool} {inner : En → Hw → List W → Res (List W)} {own : List Nat} {ρ : En} {Q : List W → Hw → Prop} {E : Ex → Hw → Prop} (I : List α → Hw → List W → Prop)
    (hg : ∀ pre h acc, I pre h acc → guOk gu h)
    (step : ∀ pre a suf h acc, as = pre ++ a :: suf → I pre h acc → wo (asg g (f a) (wipe ρ own)) fun ρ' => wp (test ρ' h) (fun k h => br k (wp (inner ρ' h acc) (fun acc' h => I (pre ++ [a]) h acc') noE) (I (pre ++ [a]) h acc)) noE)
    {h : Hw} {acc0 : List W} (i0 : I [] h acc0) (fin : ∀ h acc, I as h acc → Q acc h) : wp (compM g gu test inner own ρ (as.map f) h acc0) Q E := by
  have : ∀ (suf pre : List α) (h : Hw) (acc : List W), as = pre ++ suf → I pre h acc → wp (compM g gu test inner own ρ (suf.map f) h acc) Q E := by
    intro suf
    induction suf with
    | nil =>
      intro pre h acc e i
      rw [List.append_nil] at e
      subst e
      rw [List.map_nil, compM, guard_go (hg _ _ _ i)]
      exact fin _ _ i
    | cons a suf ih =>
      intro pre h acc e i
      rw [List.map_cons, compM, guard_go (hg _ _ _ i)]
      have s := step pre a suf h acc e i
      cases ea : asg g (f a) (wipe ρ own) with
      | none => rw [ea] at s; exact s.elim
      | some ρ' =>
        rw [ea, wo_some] at s
        dsimp only
        cases et : test ρ' h with
        | err => rw [et] at s; exact s.elim
        | exc _ _ => rw [et] at s; exact s.elim
        | ok k h1 =>
          rw [et, wp_ok] at s
          cases k with
          | false => exact ih (pre ++ [a]) _ _ (by rw [e]; simp) s
          | true =>
            dsimp only
            rw [br_t] at s
            cases ee : inner ρ' h1 acc with
            | err => rw [ee] at s; exact s.elim
            | exc _ _ => rw [ee] at s; exact s.elim
            | ok y h2 =>
              rw [ee, wp_ok] at s
              exact ih (pre ++ [a]) _ _ (by rw [e]; simp) s
  exact this as [] h acc0 rfl i0
theorem wp_compRA {lo : Int} {n : Nat} {g : IG} {test : En → Hw → Res Bool} {elt : En → Hw → Res W} {own : List Nat} {ρ : En} {Q : List W → Hw → Prop} {E : Ex → Hw → Prop} (I : Nat → Hw → List W → Prop)
    (step : ∀ i h acc, i < n → I i h acc → wo (asg g (.int (lo + (i : Int))) (wipe ρ own)) fun ρ' => wp (test ρ' h) (fun k h => br k (wp (elt ρ' h) (fun y h => acc.length < 16777216 ∧ I (i + 1) h (acc ++ [y])) noE) (I (i + 1) h acc)) noE)
    {h : Hw} {acc0 : List W} (i0 : I 0 h acc0) (fin : ∀ h acc, I n h acc → Q acc h) : wp (compL g [] test elt own ρ (rng lo n) h acc0) Q E := by
  rw [rng_map]
  refine wp_compA (fun (i : Nat) => W.int (lo + (i : Int))) (List.range n) (fun pre h acc => I pre.length h acc) (fun _ _ _ _ => guOk_nil) (fun pre a suf h acc e i => ?_) i0 (fun h acc i => fin h acc (by simpa using i))
  obtain ⟨e1, e2⟩ := range_split e
  have e3 : pre.length = a := by rw [e1]; simp
  have e4 : (pre ++ [a]).length = a + 1 := by rw [List.length_append, e3]; rfl
  rw [e4]
  exact step a h acc e2 (e3 ▸ i)
/-- a comprehension; I: what holds when `pre` is done and acc stands -/
theorem wp_comp (f : α → W) (as : List α) {g : IG} {gu : Gu} {test : En → Hw → Res Bool} {elt : En → Hw → Res W} {own : List Nat} {ρ : En} {Q : List W → Hw → Prop} {E : Ex → Hw → Prop} (I : List α → Hw → List W → Prop)
    (hg : ∀ pre h acc, I pre h acc → guOk gu h)
    (step : ∀ pre a suf h acc, as = pre ++ a :: suf → I pre h acc → wo (asg g (f a) (wipe ρ own)) fun ρ' => wp (test ρ' h) (fun k h => br k (wp (elt ρ' h) (fun y h => acc.length < 16777216 ∧ I (pre ++ [a]) h (acc ++ [y])) noE) (I (pre ++ [a]) h acc)) noE)
    {h : Hw} (i0 : I [] h []) (fin : ∀ h acc, I as h acc → Q acc h) : wp (compL g gu test elt own ρ (as.map f) h []) Q E := by
  have : ∀ (suf pre : List α) (h : Hw) (acc : List W), as = pre ++ suf → I pre h acc → wp (compL g gu test elt own ρ (suf.map f) h acc) Q E := by
    intro suf
    induction suf with
    | nil =>
      intro pre h acc e i
      rw [List.append_nil] at e
      subst e
      rw [List.map_nil, compL, guard_go (hg _ _ _ i)]
      exact fin _ _ i
    | cons a suf ih =>
      intro pre h acc e i
      rw [List.map_cons, compL, guard_go (hg _ _ _ i)]
      have s := step pre a suf h acc e i
      cases ea : asg g (f a) (wipe ρ own) with
      | none => rw [ea] at s; exact s.elim
      | some ρ' =>
        rw [ea, wo_some] at s
        dsimp only
        cases et : test ρ' h with
        | err => rw [et] at s; exact s.elim
        | exc _ _ => rw [et] at s; exact s.elim
        | ok k h1 =>
          rw [et, wp_ok] at s
          cases k with
          | false => exact ih (pre ++ [a]) _ _ (by rw [e]; simp) s
          | true =>
            dsimp only
            rw [br_t] at s
            cases ee : elt ρ' h1 with
            | err => rw [ee] at s; exact s.elim
            | exc _ _ => rw [ee] at s; exact s.elim
            | ok y h2 =>
              rw [ee, wp_ok] at s
              dsimp only
              rw [if_pos (show acc.length < lim from s.1)]
              exact ih (pre ++ [a]) _ _ (by rw [e]; simp) s.2
  exact this as [] h [] rfl i0
theorem wp_compR {lo : Int} {n : Nat} {g : IG} {test : En → Hw → Res Bool} {elt : En → Hw → Res W} {own : List Nat} {ρ : En} {Q : List W → Hw → Prop} {E : Ex → Hw → Prop} (I : Nat → Hw → List W → Prop)
    (step : ∀ i h acc, i < n → I i h acc → wo (asg g (.int (lo + (i : Int))) (wipe ρ own)) fun ρ' => wp (test ρ' h) (fun k h => br k (wp (elt ρ' h) (fun y h => acc.length < 16777216 ∧ I (i + 1) h (acc ++ [y])) noE) (I (i + 1) h acc)) noE)
    {h : Hw} (i0 : I 0 h []) (fin : ∀ h acc, I n h acc → Q acc h) : wp (compL g [] test elt own ρ (rng lo n) h []) Q E := by
  rw [rng_map]
  refine wp_comp (fun (i : Nat) => W.int (lo + (i : Int))) (List.range n) (fun pre h acc => I pre.length h acc) (fun _ _ _ _ => guOk_nil) (fun pre a suf h acc e i => ?_) i0 (fun h acc i => fin h acc (by simpa using i))
  obtain ⟨e1, e2⟩ := range_split e
  have e3 : pre.length = a := by rw [e1]; simp
  have e4 : (pre ++ [a]).length = a + 1 := by rw [List.length_append, e3]; rfl
  rw [e4]
  exact step a h acc e2 (e3 ▸ i)
end
/-- one turn of a while loop -/
theorem whl_turn (c : En → Hw → Res Bool) (body : En → Hw → Rs) (ρ : En) (h : Hw) (r : Rs) (n : Nat) (e : whlN c body n ρ h = some r) : whl c body ρ h = r := by
  have up : ∀ n ρ h r, whlN c body n ρ h = some r → ∀ m, n ≤ m → whlN c body m ρ h = some r := by
    intro n
    induction n with
    | zero => intro ρ h r e; cases e
    | succ n ih =>
      intro ρ h r e m hm
      obtain ⟨m, rfl⟩ : ∃ k, m = k + 1 := ⟨m - 1, by omega⟩
      rw [whlN] at e ⊢
      cases ec : c ρ h with
      | err => rw [ec] at e; exact e
      | exc _ _ => rw [ec] at e; exact e
      | ok k h1 =>
        rw [ec] at e
        cases k with
        | false => exact e
        | true =>
          dsimp only at e ⊢
          cases eb : body ρ h1 with
          | err => rw [eb] at e; exact e
          | exc _ _ => rw [eb] at e; exact e
          | ok q h2 =>
            obtain ⟨fl, ρ2⟩ := q
            rw [eb] at e
            cases fl with
            | next => exact ih _ _ _ e m (by omega)
            | cont => exact ih _ _ _ e m (by omega)
            | brk => exact e
            | ret w => exact e
            | rz e' => exact e
  have x : ∃ n r, whlN c body n ρ h = some r := ⟨n, r, e⟩
  unfold whl
  rw [dif_pos x]
  have y := x.choose_spec.choose_spec
  have a := up _ _ _ _ e (max n x.choose) (Nat.le_max_left _ _)
  have b := up _ _ _ _ y (max n x.choose) (Nat.le_max_right _ _)
  rw [a] at b
  cases b; rfl
theorem wps_whl {c : En → Hw → Res Bool} {body : En → Hw → Rs} {Q : Fl → En → Hw → Prop} (I : Nat → En → Hw → Prop)
    (step : ∀ m ρ h, I m ρ h → wp (c ρ h) (fun k h => br k (wps (body ρ h) fun fl ρ h => match fl with
      | .next => ∃ m', m' < m ∧ I m' ρ h
      | .cont => ∃ m', m' < m ∧ I m' ρ h
      | .brk => Q .next ρ h
      | .ret w => Q (.ret w) ρ h
      | .rz e => Q (.rz e) ρ h) (Q .next ρ h)) (fun e h => Q (.rz e) ρ h))
    {m : Nat} {ρ : En} {h : Hw} (i0 : I m ρ h) : wps (whl c body ρ h) Q := by
  have : ∀ b m ρ h, m < b → I m ρ h → ∃ r, whlN c body b ρ h = some r ∧ wps r Q := by
    intro b
    induction b with
    | zero => intro m ρ h hb; omega
    | succ b ih =>
      intro m ρ h hb i
      have s := step m ρ h i
      rw [whlN]
      cases ec : c ρ h with
      | err => rw [ec] at s; exact s.elim
      | exc e h1 => rw [ec] at s; exact ⟨_, rfl, s⟩
      | ok k h1 =>
        rw [ec, wp_ok] at s
        cases k with
        | false => exact ⟨_, rfl, s⟩
        | true =>
          rw [br_t] at s
          dsimp only
          cases eb : body ρ h1 with
          | err => rw [eb] at s; exact s.elim
          | exc _ _ => rw [eb] at s; exact s.elim
          | ok q h2 =>
            obtain ⟨fl, ρ2⟩ := q
            rw [eb] at s
            cases fl with
            | next => obtain ⟨m', lt, i'⟩ := s; exact ih m' _ _ (by omega) i'
            | cont => obtain ⟨m', lt, i'⟩ := s; exact ih m' _ _ (by omega) i'
            | brk => exact ⟨_, rfl, s⟩
            | ret w => exact ⟨_, rfl, s⟩
            | rz e' => exact ⟨_, rfl, s⟩
  obtain ⟨r, e, w⟩ := this (m + 1) m ρ h (by omega) i0
  rw [whl_turn c body ρ h r _ e]; exact w

/-! calls -/
def fin (h : Hw) (Q : W → Hw → Prop) (E : Ex → Hw → Prop) : Fl → En → Hw → Prop
  | .ret w, _, h' => wp (tidy h w h') Q E
  | .next, _, h' => wp (tidy h .non h') Q E
  | .rz e, _, h' => E e h'
  | _, _, _ => False
theorem fin_ret {h : Hw} {Q : W → Hw → Prop} {E : Ex → Hw → Prop} {w : W} {ρ : En} {h' : Hw} : fin h Q E (.ret w) ρ h' = wp (tidy h w h') Q E := rfl
theorem fin_next {h : Hw} {Q : W → Hw → Prop} {E : Ex → Hw → Prop} {ρ : En} {h' : Hw} : fin h Q E .next ρ h' = wp (tidy h .non h') Q E := rfl
theorem fin_rz {h : Hw} {Q : W → Hw → Prop} {E : Ex → Hw → Prop} {e : Ex} {ρ : En} {h' : Hw} : fin h Q E (.rz e) ρ h' = E e h' := rfl
theorem wp_fn {ds : List Df} {k f : Nat} {vs : List W} {h : Hw} {Q : W → Hw → Prop} {E : Ex → Hw → Prop} {d : Df} (e : ds[f]? = some d) (hl : vs.length = d.np)
    (w : wps (evSs (PhiN ds k) d.body (vs.map some ++ List.replicate (d.ns - d.np) none) h) (fin h Q E)) : wp (PhiN ds (k + 1) f vs h) Q E := by
  have e1 : PhiN ds (k + 1) f vs h = runDf (PhiN ds k) d vs h := PhiN_s e
  rw [e1]
  unfold runDf
  rw [if_pos hl]
  cases er : evSs (PhiN ds k) d.body (vs.map some ++ List.replicate (d.ns - d.np) none) h with
  | err => rw [er] at w; exact w.elim
  | exc _ _ => rw [er] at w; exact w.elim
  | ok q h' =>
    obtain ⟨fl, ρ⟩ := q
    rw [er] at w
    cases fl with
    | next => exact w
    | brk => exact w.elim
    | cont => exact w.elim
    | ret v => exact w
    | rz x => exact w

/-! what is forgotten behind a call -/
structure Old (h g : Hw) : Prop where
  len : g.length = h.length
  ok : ∀ i o, i < h.length → g[i]? = some o → h[i]? = some o ∨ o.blw h.length
theorem Old.refl (h : Hw) : Old h h := ⟨rfl, fun i o _ e => .inl e⟩
theorem Old.set {h g : Hw} {p : Nat} {xs : List W} (o : Old h g) (b : W.blws h.length xs) : Old h (g.set p (.lst xs)) := by
  refine ⟨by rw [List.length_set]; exact o.len, fun i u hi e => ?_⟩
  by_cases c : p = i
  · subst c
    rw [List.getElem?_set_self (by rw [o.len]; exact hi)] at e
    cases e; exact .inr b
  · rw [List.getElem?_set_ne c] at e
    exact o.ok i u hi e
theorem Old.app {h g : Hw} (o : Old h g) (t : Hw) : OldOk h (g ++ t) := by
  refine ⟨by rw [List.length_append, o.len]; omega, fun i u hi e => ?_⟩
  rw [List.getElem?_append_left (by rw [o.len]; exact hi)] at e
  exact o.ok i u hi e
theorem tidy_app {h g : Hw} (o : Old h g) {w : W} (t : Hw) (b : w.blw h.length) : tidy h w (g ++ t) = .ok w g := by
  unfold tidy
  rw [if_pos (o.app t), if_pos b, ← o.len, List.take_left]
theorem tidy_nil {h : Hw} {w : W} (b : w.blw 0) : tidy [] w h = .ok w [] := by
  unfold tidy
  rw [if_pos ⟨Nat.zero_le _, fun i o hi => absurd hi (Nat.not_lt_zero _)⟩]
  exact if_pos b
theorem wp_law {r : Res W} (w : wp r (fun a _ => a = .bl true) noE) : ∃ h', r = .ok (.bl true) h' := by
  cases r with
  | ok a h => obtain rfl := w; exact ⟨h, rfl⟩
  | exc e h => exact w.elim
  | err => exact w.elim
theorem wo_pick (cs : List Int) (P : Int → Prop) {r : Int} {Q : W → Prop} (h : 0 ≤ r ∧ r < cs.length) (hp : ∀ c ∈ cs, P c) (K : ∀ c, P c → Q (.int c)) : wo ((cs.map W.int)[r.toNat]?) Q := by
  have hr : r.toNat < cs.length := by omega
  rw [List.getElem?_map, List.getElem?_eq_getElem hr, Option.map_some, wo_some]
  exact K _ (hp _ (List.getElem_mem hr))
theorem tidy_one {h g : Hw} (o : Old h g) {w : W} (b : w.blw h.length) : tidy h w g = .ok w g := by
  have := tidy_app o [] b
  rwa [List.append_nil] at this
theorem tidy_new {h g : Hw} (o : Old h g) {t : Hw} {k : Nat} {xs : List W} (e : lstAt t k = some xs) (b : W.blws h.length xs) : tidy h (.ref (h.length + k)) (g ++ t) = .ok (.ref h.length) (g ++ [.lst xs]) := by
  unfold tidy
  rw [if_pos (o.app t), if_neg (by unfold W.blw; omega)]
  have e2 : (g ++ t)[h.length + k]? = some (.lst xs) := by
    rw [List.getElem?_append_right (by rw [o.len]; omega), o.len, Nat.add_sub_cancel_left]
    exact lstAt_get e
  simp only [e2]
  rw [if_pos (show (O.lst xs).blw h.length from b), ← o.len, List.take_left]
theorem blw_int {n : Nat} {i : Int} : (W.int i).blw n := by unfold W.blw; trivial
theorem blw_bl {n : Nat} {i : Bool} : (W.bl i).blw n := by unfold W.blw; trivial
theorem blw_non {n : Nat} : W.non.blw n := by unfold W.blw; trivial
theorem blw_str {n : Nat} {x : Str} : (W.str x).blw n := by unfold W.blw; trivial
theorem blw_ref {n k : Nat} (e : k < n) : (W.ref k).blw n := by unfold W.blw; exact e
theorem blw_tup {n : Nat} {xs : List W} (e : W.blws n xs) : (W.tup xs).blw n := by unfold W.blw; exact e
theorem blws_nil {n : Nat} : W.blws n [] := by unfold W.blws; trivial
theorem blws_cons {n : Nat} {x : W} {xs : List W} (e : x.blw n) (f : W.blws n xs) : W.blws n (x :: xs) := by unfold W.blws; exact ⟨e, f⟩
theorem blws_all {n : Nat} {xs : List W} (e : ∀ x ∈ xs, x.blw n) : W.blws n xs := by
  induction xs with
  | nil => exact blws_nil
  | cons x xs ih => exact blws_cons (e x (by simp)) (ih fun y hy => e y (by simp [hy]))
theorem blws_mem {n : Nat} {xs : List W} (e : W.blws n xs) : ∀ x ∈ xs, x.blw n := by
  induction xs with
  | nil => intro x hx; simp at hx
  | cons y xs ih =>
    unfold W.blws at e
    intro x hx
    rcases List.mem_cons.mp hx with z | z
    · rw [z]; exact e.1
    · exact ih e.2 x z
theorem blws_ints {n : Nat} (ns : List Int) : W.blws n (ns.map W.int) := blws_all fun x hx => by
  obtain ⟨i, _, rfl⟩ := List.mem_map.mp hx; exact blw_int
theorem blws_app {n : Nat} {xs ys : List W} (e : W.blws n xs) (f : W.blws n ys) : W.blws n (xs ++ ys) := blws_all fun x hx => by
  rcases List.mem_append.mp hx with z | z
  · exact blws_mem e x z
  · exact blws_mem f x z
end Ev

set_option Elab.async false
set_option linter.all false
set_option maxRecDepth 100000
/-! WpD: dicts, backwards. -/
namespace Ev
open PySem
section
variable {Φ : Fn} {ρ : En} {h : Hw} {Q : W → Hw → Prop} {E : Ex → Hw → Prop}
/-! dicts -/
def dicAt (h : Hw) (n : Nat) : Option (List (Int × W)) := match h[n]? with
  | some (.dic _ kvs) => some kvs
  | _ => none
/-- a dict that is not locked -/
def dicFr (h : Hw) (n : Nat) : Option (List (Int × W)) := match h[n]? with
  | some (.dic false kvs) => some kvs
  | _ => none
theorem wp_dnew : wp (evE Φ .dnew ρ h) Q E = Q (.ref h.length) (h ++ [.dic false []]) := by rw [evE]; rfl
theorem wp_dget {d k : IE} : wp (evE Φ (.dget d k) ρ h) Q E = wp (evE Φ d ρ h) (fun x h => wp (evE Φ k ρ h) (fun y h => wp (dgetV x y h) Q E) E) E := by
  rw [evE, wp_bind]
  exact wpc fun x h => wp_bind
theorem wp_din {b : Bool} {k d : IE} : wp (evE Φ (.din b k d) ρ h) Q E = wp (evE Φ k ρ h) (fun y h => wp (evE Φ d ρ h) (fun x h => wp (dinV b y x h) Q E) E) E := by
  rw [evE, wp_bind]
  exact wpc fun x h => wp_bind
theorem dgetV_ref {n : Nat} {i : Int} : wp (dgetV (.ref n) (.int i) h) Q E = wo (dicAt h n) fun kvs => wo (lookD kvs i) fun w => Q w h := by
  show wp (match h[n]? with
    | some (.dic _ kvs) => (match lookD kvs i with | some w => .ok w h | none => .err)
    | _ => .err) Q E = _
  unfold dicAt
  cases h[n]? with
  | none => rfl
  | some o => cases o with
    | lst _ => rfl
    | dit _ _ => rfl
    | dic lk kvs =>
      dsimp only [wo]
      cases lookD kvs i <;> rfl
theorem dinV_ref {b : Bool} {n : Nat} {i : Int} : wp (dinV b (.int i) (.ref n) h) Q E = wo (dicAt h n) fun kvs => Q (.bl ((lookD kvs i).isSome == b)) h := by
  show wp (match h[n]? with
    | some (.dic _ kvs) => .ok (.bl ((lookD kvs i).isSome == b)) h
    | _ => .err) Q E = _
  unfold dicAt
  cases h[n]? with
  | none => rfl
  | some o => cases o <;> rfl
end
section
variable {Φ : Fn} {ρ : En} {h : Hw} {Q : Fl → En → Hw → Prop}
theorem ws_dset {o i e : IE} : wps (evS Φ (.dset o i e) ρ h) Q = wp (evE Φ e ρ h) (fun v h => wp (evE Φ o ρ h) (fun x h => wp (evE Φ i ρ h) (fun y h => wo (dputV x y v h) fun h' => Q .next ρ h') fun e h => Q (.rz e) ρ h) fun e h => Q (.rz e) ρ h) fun e h => Q (.rz e) ρ h := by
  rw [evS, wps_st]
  refine wpc fun v h => ?_
  rw [wps_st]
  refine wpc fun x h => ?_
  rw [wps_st]
  refine wpc fun y h => ?_
  cases dputV x y v h <;> rfl
theorem ws_daug {d k e : IE} {p : Bop} : wps (evS Φ (.daug d k p e) ρ h) Q = wp (evE Φ d ρ h) (fun x h => wp (evE Φ k ρ h) (fun y h => wp (dgetV x y h) (fun w h => wp (evE Φ e ρ h) (fun v h => wo (augO p w v) fun z => wo (dputV x y z h) fun h' => Q .next ρ h') fun e h => Q (.rz e) ρ h) fun e h => Q (.rz e) ρ h) fun e h => Q (.rz e) ρ h) fun e h => Q (.rz e) ρ h := by
  rw [evS, wps_st]
  refine wpc fun x h => ?_
  rw [wps_st]
  refine wpc fun y h => ?_
  rw [wps_st]
  refine wpc fun w h => ?_
  rw [wps_st]
  refine wpc fun v h => ?_
  cases augO p w v with
  | none => rfl
  | some z =>
    show wps (match dputV x y z h with
      | some h' => .ok (.next, ρ) h'
      | none => .err) Q = wo (dputV x y z h) fun h' => Q .next ρ h'
    cases dputV x y z h <;> rfl
theorem dputV_ref {p : Nat} {k : Int} {v : W} {Q : Hw → Prop} : wo (dputV (.ref p) (.int k) v h) Q = wo (dicFr h p) fun kvs => kvs.length < 16777216 ∧ Q (h.set p (.dic false (putD kvs k v))) := by
  show wo (match h[p]? with
    | some (.dic false kvs) => if kvs.length < lim then some (h.set p (.dic false (putD kvs k v))) else none
    | _ => none) Q = _
  unfold dicFr
  cases h[p]? with
  | none => rfl
  | some o => cases o with
    | lst _ => rfl
    | dit _ _ => rfl
    | dic lk kvs =>
      cases lk with
      | true => rfl
      | false =>
      dsimp only [wo]
      by_cases c : kvs.length < lim
      · rw [if_pos c]; exact propext ⟨fun q => ⟨c, q⟩, fun q => q.2⟩
      · rw [if_neg c]; exact propext ⟨fun q => q.elim, fun q => c q.1⟩
end
end Ev

set_option Elab.async false
set_option linter.all false
set_option maxRecDepth 100000
/-! WpE: dicts of pairs, by comprehensions, displays, setdefault, reversed, t.index, backwards. -/
namespace Ev
open PySem
section
theorem dicAt_of {h : Hw} {n : Nat} {b : Bool} {kvs : List (Int × W)} (e : h[n]? = some (.dic b kvs)) : dicAt h n = some kvs := by unfold dicAt; rw [e]
theorem dicFr_of {h : Hw} {n : Nat} {kvs : List (Int × W)} (e : h[n]? = some (.dic false kvs)) : dicFr h n = some kvs := by unfold dicFr; rw [e]
theorem dicFr_get {h : Hw} {n : Nat} {kvs : List (Int × W)} (e : dicFr h n = some kvs) : h[n]? = some (.dic false kvs) := by
  unfold dicFr at e
  split at e
  · rename_i kvs' e2; cases e; exact e2
  · cases e
theorem dicAt_fr {h : Hw} {n : Nat} {kvs : List (Int × W)} (e : dicFr h n = some kvs) : dicAt h n = some kvs := dicAt_of (dicFr_get e)
theorem dicFr_lt {h : Hw} {n : Nat} {kvs : List (Int × W)} (e : dicFr h n = some kvs) : n < h.length := (List.getElem?_eq_some_iff.mp (dicFr_get e)).1
theorem dicAt_z {b : Bool} {kvs : List (Int × W)} {h : Hw} : dicAt (.dic b kvs :: h) 0 = some kvs := rfl
theorem dicAt_s {o : O} {h : Hw} {n : Nat} : dicAt (o :: h) (n + 1) = dicAt h n := rfl
theorem dicAt_al {h t : Hw} {i : Nat} (e : i < h.length) : dicAt (h ++ t) i = dicAt h i := by unfold dicAt; rw [List.getElem?_append_left e]
theorem dicAt_ar {h t : Hw} {i : Nat} (e : h.length ≤ i) : dicAt (h ++ t) i = dicAt t (i - h.length) := by unfold dicAt; rw [List.getElem?_append_right e]
theorem dicAt_e {h t : Hw} {o : O} : dicAt (h ++ o :: t) h.length = dicAt (o :: t) 0 := by rw [dicAt_ar (Nat.le_refl _), Nat.sub_self]
theorem dicAt_set {h : Hw} {p : Nat} {b : Bool} {kvs : List (Int × W)} (e : p < h.length) : dicAt (h.set p (.dic b kvs)) p = some kvs := by unfold dicAt; rw [List.getElem?_set_self e]
theorem dicAt_ne {h : Hw} {p q : Nat} {o : O} (e : p ≠ q) : dicAt (h.set p o) q = dicAt h q := by unfold dicAt; rw [List.getElem?_set_ne e]
theorem dicFr_z {kvs : List (Int × W)} {h : Hw} : dicFr (.dic false kvs :: h) 0 = some kvs := rfl
theorem dicFr_s {o : O} {h : Hw} {n : Nat} : dicFr (o :: h) (n + 1) = dicFr h n := rfl
theorem dicFr_al {h t : Hw} {i : Nat} (e : i < h.length) : dicFr (h ++ t) i = dicFr h i := by unfold dicFr; rw [List.getElem?_append_left e]
theorem dicFr_ar {h t : Hw} {i : Nat} (e : h.length ≤ i) : dicFr (h ++ t) i = dicFr t (i - h.length) := by unfold dicFr; rw [List.getElem?_append_right e]
theorem dicFr_e {h t : Hw} {o : O} : dicFr (h ++ o :: t) h.length = dicFr (o :: t) 0 := by rw [dicFr_ar (Nat.le_refl _), Nat.sub_self]
theorem dicFr_set {h : Hw} {p : Nat} {kvs : List (Int × W)} (e : p < h.length) : dicFr (h.set p (.dic false kvs)) p = some kvs := by unfold dicFr; rw [List.getElem?_set_self e]
theorem dicFr_ne {h : Hw} {p q : Nat} {o : O} (e : p ≠ q) : dicFr (h.set p o) q = dicFr h q := by unfold dicFr; rw [List.getElem?_set_ne e]
theorem lstAt_dz {b : Bool} {kvs : List (Int × W)} {h : Hw} : lstAt (.dic b kvs :: h) 0 = none := rfl
def dicW (x : W) (h : Hw) : Option (List (Int × W)) := match x with | .ref n => dicAt h n | _ => none
theorem dicW_ref {n : Nat} {h : Hw} : dicW (.ref n) h = dicAt h n := rfl
def frW (x : W) (h : Hw) : Option (List (Int × W)) := match x with | .ref n => dicFr h n | _ => none
theorem frW_ref {n : Nat} {h : Hw} : frW (.ref n) h = dicFr h n := rfl
def tupW (x : W) : Option (List W) := match x with | .tup xs => some xs | _ => none
theorem tupW_tup {xs : List W} : tupW (.tup xs) = some xs := rfl
end
section
variable {Φ : Fn} {ρ : En} {h : Hw} {Q : W → Hw → Prop} {E : Ex → Hw → Prop}
theorem wp_dgt {d k z : IE} : wp (evE Φ (.dgt d k z) ρ h) Q E = wp (evE Φ d ρ h) (fun x h => wo (dicW x h) fun _ => wp (evE Φ k ρ h) (fun y h => wp (evE Φ z ρ h) (fun z h => wp (dgtV x y z h) Q E) E) E) E := by
  rw [e_dgt]
  show wp ((evE Φ d ρ h).bind _) Q E = _
  rw [wp_bind]
  refine wpc fun x h => ?_
  cases x <;> try rfl
  rename_i n
  dsimp only [dicW]
  unfold dicAt
  cases h[n]? with
  | none => rfl
  | some o => cases o with
    | lst _ => rfl
    | dit _ _ => rfl
    | dic lk kvs => exact wp_bind.trans (wpc fun y h => wp_bind)
theorem dgtV_ref {n : Nat} {i : Int} {z : W} : wp (dgtV (.ref n) (.int i) z h) Q E = wo (dicAt h n) fun kvs => Q ((lookD kvs i).getD z) h := by
  show wp (match h[n]? with
    | some (.dic _ kvs) => (match lookD kvs i with | some w => .ok w h | none => .ok z h)
    | _ => .err) Q E = _
  unfold dicAt
  cases h[n]? with
  | none => rfl
  | some o => cases o with
    | lst _ => rfl
    | dit _ _ => rfl
    | dic lk kvs =>
      dsimp only [wo]
      cases lookD kvs i <;> rfl
theorem wp_dst {d k z : IE} : wp (evE Φ (.dst d k z) ρ h) Q E = wp (evE Φ d ρ h) (fun x h => wo (dicW x h) fun _ => wp (evE Φ k ρ h) (fun y h => wp (evE Φ z ρ h) (fun z h => wp (dstV x y z h) Q E) E) E) E := by
  rw [e_dst]
  show wp ((evE Φ d ρ h).bind _) Q E = _
  rw [wp_bind]
  refine wpc fun x h => ?_
  cases x <;> try rfl
  rename_i n
  dsimp only [dicW]
  unfold dicAt
  cases h[n]? with
  | none => rfl
  | some o => cases o with
    | lst _ => rfl
    | dit _ _ => rfl
    | dic lk kvs => exact wp_bind.trans (wpc fun y h => wp_bind)
theorem dstV_ref {n : Nat} {i : Int} {z : W} : wp (dstV (.ref n) (.int i) z h) Q E = wo (dicFr h n) fun kvs => kvs.length < 16777216 ∧ (match lookD kvs i with | some w => Q w h | none => Q z (h.set n (.dic false (putD kvs i z)))) := by
  show wp (match h[n]? with
    | some (.dic false kvs) => if kvs.length < lim then (match lookD kvs i with
      | some w => .ok w h
      | none => .ok z (h.set n (.dic false (putD kvs i z)))) else .err
    | _ => .err) Q E = _
  unfold dicFr
  cases h[n]? with
  | none => rfl
  | some o => cases o with
    | lst _ => rfl
    | dit _ _ => rfl
    | dic lk kvs =>
      cases lk with
      | true => rfl
      | false =>
        dsimp only [wo]
        by_cases c : kvs.length < lim
        · rw [if_pos c]
          cases lookD kvs i with
          | none => exact propext ⟨fun q => ⟨c, q⟩, fun q => q.2⟩
          | some w => exact propext ⟨fun q => ⟨c, q⟩, fun q => q.2⟩
        · rw [if_neg c]; exact propext ⟨fun q => q.elim, fun q => c q.1⟩
theorem wp_dmk {l : IL} : wp (evE Φ (.dmk l) ρ h) Q E = wp (evL Φ l ρ h) (fun q h => wo (toPrs q.1) fun kvs => Q (.ref h.length) (h ++ [.dic false (mrgD [] kvs)])) E := by
  rw [evE, wp_bind]
  refine wpc fun q h => ?_
  unfold dmkV
  cases toPrs q.1 <;> rfl
theorem wp_dcp {e : IE} : wp (evE Φ (.dcp e) ρ h) Q E = wp (evE Φ e ρ h) (fun x h => wo (dicW x h) fun kvs => Q (.ref h.length) (h ++ [.dic false kvs])) E := by
  rw [evE, wp_bind]
  refine wpc fun x h => ?_
  cases x <;> try rfl
  rename_i n
  show wp (match h[n]? with
    | some (.dic _ kvs) => .ok (.ref h.length) (h ++ [.dic false kvs])
    | _ => .err) Q E = _
  dsimp only [dicW]
  unfold dicAt
  cases h[n]? with
  | none => rfl
  | some o => cases o <;> rfl
theorem wp_ddl {es : IEs} : wp (evE Φ (.ddl es) ρ h) Q E = wp (evEs Φ es ρ (h ++ [.dic false []])) (fun vs h' => wo (toPr2 vs) fun kvs => wo (dicFr h' h.length) fun z => (z = [] ∧ kvs.length ≤ 15) ∧ Q (.ref h.length) (h'.set h.length (.dic false (mrgD [] kvs)))) E := by
  rw [evE, wp_bind]
  refine wpc fun vs h' => ?_
  unfold ddlV dicFr
  cases toPr2 vs with
  | none => rfl
  | some kvs =>
    cases h'[h.length]? with
    | none => rfl
    | some o => cases o with
      | lst _ => rfl
      | dit _ _ => rfl
      | dic lk z =>
        cases lk with
        | true => rfl
        | false =>
          cases z with
          | cons a l => exact propext ⟨fun q => q.elim, fun q => by cases q.1.1⟩
          | nil =>
            dsimp only [wo]
            by_cases c : kvs.length ≤ 15
            · rw [if_pos c]; exact propext ⟨fun q => ⟨⟨rfl, c⟩, q⟩, fun q => q.2⟩
            · rw [if_neg c]; exact propext ⟨fun q => q.elim, fun q => c q.1.2⟩
theorem wp_dcm {g : IG} {it : II} {ts : ITs} {k v : IE} {own : List Nat} : wp (evE Φ (.dcm g it ts k v own) ρ h) Q E = wp (evI Φ it ρ h) (fun q h => wp (compD g q.2 (fun ρ h => evTs Φ ts ρ h) (fun ρ h => evE Φ k ρ h) (fun ρ h => evE Φ v ρ h) own h.length ρ q.1 (h ++ [.dic false []])) (fun _ h' => Q (.ref h.length) h') E) E := by
  rw [evE, wp_bind]
  exact wpc fun q h => wp_bind
theorem wp_dvm {e : IE} : wp (evE Φ (.dvm e) ρ h) Q E = wp (evE Φ e ρ h) (fun x h => wo (frW x h) fun kvs => wo (toInts (kvs.map (·.2))) fun ns => ns ≠ [] ∧ Q (.int (maxL ns)) h) E := by
  rw [evE, wp_bind]
  refine wpc fun x h => ?_
  cases x <;> try rfl
  rename_i n
  show wp (match h[n]? with
    | some (.dic false kvs) => (match toInts (kvs.map (·.2)) with
      | some (n :: ns) => .ok (.int (maxL (n :: ns))) h
      | _ => .err)
    | _ => .err) Q E = _
  dsimp only [frW]
  unfold dicFr
  cases h[n]? with
  | none => rfl
  | some o => cases o with
    | lst _ => rfl
    | dit _ _ => rfl
    | dic lk kvs =>
      cases lk with
      | true => rfl
      | false =>
        dsimp only [wo]
        cases toInts (kvs.map (·.2)) with
        | none => rfl
        | some ns => cases ns with
          | nil => exact propext ⟨fun q => q.elim, fun q => q.1 rfl⟩
          | cons n ns => exact propext ⟨fun q => ⟨by simp, q⟩, fun q => q.2⟩
theorem wp_dsr {e : IE} : wp (evE Φ (.dsr e) ρ h) Q E = wp (evE Φ e ρ h) (fun x h => wo (dicW x h) fun kvs => kvs.length < 64 ∧ Q (.ref h.length) (h ++ [.lst ((isort (kvs.map (·.1))).map W.int)])) E := by
  rw [evE, wp_bind]
  refine wpc fun x h => ?_
  cases x <;> try rfl
  rename_i n
  show wp (match h[n]? with
    | some (.dic _ kvs) => if kvs.length < 64 then .ok (.ref h.length) (h ++ [.lst ((isort (kvs.map (·.1))).map .int)]) else .err
    | _ => .err) Q E = _
  dsimp only [dicW]
  unfold dicAt
  cases h[n]? with
  | none => rfl
  | some o => cases o with
    | lst _ => rfl
    | dit _ _ => rfl
    | dic lk kvs =>
      dsimp only [wo]
      by_cases c : kvs.length < 64
      · rw [if_pos c]; exact propext ⟨fun q => ⟨c, q⟩, fun q => q.2⟩
      · rw [if_neg c]; exact propext ⟨fun q => q.elim, fun q => c q.1⟩
theorem wp_trv {l : IL} : wp (evE Φ (.trv l) ρ h) Q E = wp (evL Φ l ρ h) (fun q h => Q (.tup q.1.reverse) h) E := by
  rw [evE, wp_bind]
  exact wpc fun q h => rfl
theorem wp_tix {a b : IE} : wp (evE Φ (.tix a b) ρ h) Q E = wp (evE Φ a ρ h) (fun x h => wo (tupW x) fun xs => wp (evE Φ b ρ h) (fun y h => wo (intW y) fun k => wo (toInts xs) fun ns => wo (ns.idxOf? k) fun i => Q (.int i) h) E) E := by
  rw [evE, wp_bind]
  refine wpc fun x h => ?_
  cases x <;> try rfl
  rename_i xs
  refine wp_bind.trans (wpc fun y h => ?_)
  cases y <;> try rfl
  rename_i k
  show wp (match toInts xs with
    | some ns => (match ns.idxOf? k with | some i => .ok (.int i) h | none => .err)
    | none => .err) Q E = _
  dsimp only [intW, wo]
  cases toInts xs with
  | none => rfl
  | some ns =>
    dsimp only
    cases ns.idxOf? k <;> rfl
theorem wp_irv {l : IL} {Q : List W × Gu → Hw → Prop} : wp (evI Φ (.rv l) ρ h) Q E = wp (evL Φ l ρ h) (fun q h => Q (q.1.reverse, q.2.1) h) E := by
  rw [evI, wp_bind]; rfl
theorem toPrs_nil : toPrs [] = some [] := rfl
theorem toPrs_cons {k : Int} {w : W} {r : List W} : toPrs (.tup [.int k, w] :: r) = (toPrs r).map ((k, w) :: ·) := rfl
theorem toPrs_map (l : List (Int × W)) : toPrs (l.map fun p => .tup [.int p.1, p.2]) = some l := by
  induction l with
  | nil => rfl
  | cons p l ih => rw [List.map_cons, toPrs_cons, ih]; rfl
theorem toPr2_one {k : Int} {w : W} : toPr2 [.int k, w] = some [(k, w)] := rfl
theorem toPr2_two {k l : Int} {w u : W} : toPr2 [.int k, w, .int l, u] = some [(k, w), (l, u)] := rfl
/-- a dict comprehension; I: what holds when `pre` is done -/
theorem wp_compD {α : Type} (f : α → W) (as : List α) {g : IG} {gu : Gu} {test : En → Hw → Res Bool} {key val : En → Hw → Res W} {own : List Nat} {n : Nat} {Q : Unit → Hw → Prop} (I : List α → Hw → Prop)
    (hg : ∀ pre h, I pre h → guOk gu h)
    (step : ∀ pre a suf h, as = pre ++ a :: suf → I pre h → wo (asg g (f a) (wipe ρ own)) fun ρ' => wp (test ρ' h) (fun k h => br k (wp (key ρ' h) (fun y h => wp (val ρ' h) (fun v h => wo (dputV (.ref n) y v h) fun h => I (pre ++ [a]) h) noE) noE) (I (pre ++ [a]) h)) noE)
    {h : Hw} (i0 : I [] h) (fin : ∀ h, I as h → Q () h) : wp (compD g gu test key val own n ρ (as.map f) h) Q E := by
  have : ∀ (suf pre : List α) (h : Hw), as = pre ++ suf → I pre h → wp (compD g gu test key val own n ρ (suf.map f) h) Q E := by
    intro suf
    induction suf with
    | nil =>
      intro pre h e i
      rw [List.append_nil] at e
      subst e
      rw [List.map_nil, compD, guard_go (hg _ _ i)]
      exact fin _ i
    | cons a suf ih =>
      intro pre h e i
      rw [List.map_cons, compD, guard_go (hg _ _ i)]
      have s := step pre a suf h e i
      cases ea : asg g (f a) (wipe ρ own) with
      | none => rw [ea] at s; exact s.elim
      | some ρ' =>
        rw [ea, wo_some] at s
        dsimp only
        cases et : test ρ' h with
        | err => rw [et] at s; exact s.elim
        | exc _ _ => rw [et] at s; exact s.elim
        | ok k h1 =>
          rw [et, wp_ok] at s
          cases k with
          | false => exact ih (pre ++ [a]) _ (by rw [e]; simp) s
          | true =>
            dsimp only
            rw [br_t] at s
            cases ek : key ρ' h1 with
            | err => rw [ek] at s; exact s.elim
            | exc _ _ => rw [ek] at s; exact s.elim
            | ok y h2 =>
              rw [ek, wp_ok] at s
              dsimp only
              cases ev : val ρ' h2 with
              | err => rw [ev] at s; exact s.elim
              | exc _ _ => rw [ev] at s; exact s.elim
              | ok v h3 =>
                rw [ev, wp_ok] at s
                dsimp only
                cases ed : dputV (.ref n) y v h3 with
                | none => rw [ed] at s; exact s.elim
                | some h4 =>
                  rw [ed, wo_some] at s
                  exact ih (pre ++ [a]) _ (by rw [e]; simp) s
  exact this as [] h rfl i0
end
end Ev

set_option Elab.async false
set_option linter.all false
set_option maxRecDepth 100000
/-! WpF: walks of dicts, chains, insert, remove, count, backwards. -/
namespace Ev
open PySem
section
def refW (x : W) : Option Nat := match x with | .ref n => some n | _ => none
theorem refW_ref {n : Nat} : refW (.ref n) = some n := rfl
def blW (x : W) : Option Bool := match x with | .bl b => some b | _ => none
theorem blW_bl {b : Bool} : blW (.bl b) = some b := rfl
/-- a dict that is locked -/
def dicLk (h : Hw) (n : Nat) : Option (List (Int × W)) := match h[n]? with
  | some (.dic true kvs) => some kvs
  | _ => none
theorem dicLk_set {h : Hw} {p : Nat} {kvs : List (Int × W)} (e : p < h.length) : dicLk (h.set p (.dic true kvs)) p = some kvs := by unfold dicLk; rw [List.getElem?_set_self e]
theorem dicLk_al {h t : Hw} {i : Nat} (e : i < h.length) : dicLk (h ++ t) i = dicLk h i := by unfold dicLk; rw [List.getElem?_append_left e]
theorem dicLk_ne {h : Hw} {p q : Nat} {o : O} (e : p ≠ q) : dicLk (h.set p o) q = dicLk h q := by unfold dicLk; rw [List.getElem?_set_ne e]
theorem set_fr {h : Hw} {n : Nat} {kvs : List (Int × W)} (e : dicFr h n = some kvs) : h.set n (.dic false kvs) = h := by
  have := dicFr_get e
  rw [List.getElem?_eq_some_iff] at this
  obtain ⟨h1, h2⟩ := this
  rw [← h2, List.set_getElem_self]
theorem wo_lk {r : Res W} {h : Hw} {Q : Nat × List (Int × W) → Prop} : wo (lkOf r h) Q = wp r (fun x _ => wo (refW x) fun n => wo (dicFr h n) fun kvs => Q (n, kvs)) noE := by
  unfold lkOf
  cases r with
  | err => rfl
  | exc e h' => rfl
  | ok x h' =>
    cases x <;> try rfl
    rename_i n
    rw [wp_ok, refW_ref, wo_some]
    unfold dicFr
    dsimp only
    cases h[n]? with
    | none => rfl
    | some o => cases o with
      | lst _ => rfl
      | dit _ _ => rfl
      | dic b kvs => cases b <;> rfl
theorem wo_unlk {n : Nat} {h : Hw} {Q : Hw → Prop} : wo (unlk n h) Q = wo (dicLk h n) fun kvs => Q (h.set n (.dic false kvs)) := by
  unfold unlk dicLk
  cases h[n]? with
  | none => rfl
  | some o => cases o with
    | lst _ => rfl
    | dit _ _ => rfl
    | dic b kvs => cases b <;> rfl
theorem dkV_ref {n : Nat} {h : Hw} {Q : List W → Prop} : wo (dkV (.ref n) h) Q = wo (dicLk h n) fun kvs => Q (kvs.map fun p => .int p.1) := by
  unfold dkV dicLk
  dsimp only
  cases h[n]? with
  | none => rfl
  | some o => cases o with
    | lst _ => rfl
    | dit _ _ => rfl
    | dic b kvs => cases b <;> rfl
theorem diV_ref {n : Nat} {h : Hw} {Q : List W → Prop} : wo (diV (.ref n) h) Q = wo (dicLk h n) fun kvs => Q (kvs.map fun p => .tup [.int p.1, p.2]) := by
  unfold diV dicLk
  dsimp only
  cases h[n]? with
  | none => rfl
  | some o => cases o with
    | lst _ => rfl
    | dit _ _ => rfl
    | dic b kvs => cases b <;> rfl
end
section
variable {Φ : Fn} {ρ : En} {h : Hw} {Q : W → Hw → Prop} {E : Ex → Hw → Prop}
theorem wp_lck {g e : IE} : wp (evE Φ (.lck g e) ρ h) Q E = wp (evE Φ g ρ h) (fun x _ => wo (refW x) fun n => wo (dicFr h n) fun kvs => wp (evE Φ e ρ (h.set n (.dic true kvs))) (fun x h' => wo (dicLk h' n) fun kvs => Q x (h'.set n (.dic false kvs))) E) noE := by
  rw [evE, ← wo_lk (Q := fun p => wp (evE Φ e ρ (h.set p.1 (.dic true p.2))) (fun x h' => wo (dicLk h' p.1) fun kvs => Q x (h'.set p.1 (.dic false kvs))) E)]
  cases lkOf (evE Φ g ρ h) h with
  | none => rfl
  | some p =>
    obtain ⟨n, kvs⟩ := p
    rw [wo_some]
    dsimp only
    rw [wp_bind]
    refine wpc fun x h' => ?_
    rw [← wo_unlk (Q := fun h2 => Q x h2)]
    cases unlk n h' <;> rfl
theorem wp_chn {o p : Cop} {a b c : IE} : wp (evE Φ (.chn o p a b c) ρ h) Q E = wp (evE Φ a ρ h) (fun x h => wp (evE Φ b ρ h) (fun y h => wp (cmp o x y h) (fun k h => wo (blW k) fun k => br k (wp (evE Φ c ρ h) (fun z h => wp (cmp p y z h) Q E) E) (Q (.bl false) h)) E) E) E := by
  rw [evE, wp_bind]
  refine wpc fun x h => wp_bind.trans (wpc fun y h => wp_bind.trans (wpc fun k h => ?_))
  cases k with
  | bl b =>
    cases b with
    | true => exact wp_bind
    | false => rfl
  | _ => rfl
theorem wp_idk {e : IE} {Q : List W × Gu → Hw → Prop} : wp (evI Φ (.dk e) ρ h) Q E = wp (evE Φ e ρ h) (fun x h => wo (dkV x h) fun xs => Q (xs, []) h) E := by
  rw [evI, wp_bind]
  refine wpc fun x h => ?_
  cases dkV x h <;> rfl
theorem wp_idi {e : IE} {Q : List W × Gu → Hw → Prop} : wp (evI Φ (.di e) ρ h) Q E = wp (evE Φ e ρ h) (fun x h => wo (diV x h) fun xs => Q (xs, []) h) E := by
  rw [evI, wp_bind]
  refine wpc fun x h => ?_
  cases diV x h <;> rfl
theorem mt_ins {p : Nat} {i : Int} {v : W} : wp (mt .insert (.ref p) [.int i, v] h) Q E = wo (lstAt h p) fun xs => (xs.length < 16777216 ∧ 0 ≤ i ∧ i < 4611686018427387904) ∧ Q .non (h.set p (.lst (xs.take i.toNat ++ [v] ++ xs.drop i.toNat))) := by
  show wp (match h[p]? with
    | some (.lst xs) => if xs.length < lim ∧ 0 ≤ i ∧ i < 2 ^ 62 then .ok .non (h.set p (.lst (xs.take i.toNat ++ [v] ++ xs.drop i.toNat))) else .err
    | _ => .err) Q E = _
  unfold lstAt
  cases h[p]? with
  | none => rfl
  | some o => cases o with
    | lst xs =>
      dsimp only
      rw [wo_some]
      by_cases c : xs.length < lim ∧ 0 ≤ i ∧ i < 2 ^ 62
      · rw [if_pos c]; exact propext ⟨fun q => ⟨c, q⟩, fun q => q.2⟩
      · rw [if_neg c]; exact propext ⟨fun q => q.elim, fun q => c q.1⟩
    | _ => rfl
theorem mt_rem {p : Nat} {k : Int} : wp (mt .remove (.ref p) [.int k] h) Q E = wo (lstAt h p) fun xs => wo (toInts xs) fun ns => wo (ns.idxOf? k) fun j => Q .non (h.set p (.lst ((ns.eraseIdx j).map W.int))) := by
  show wp (match h[p]? with
    | some (.lst xs) => (match toInts xs with
      | some ns => (match ns.idxOf? k with | some j => .ok .non (h.set p (.lst ((ns.eraseIdx j).map .int))) | none => .err)
      | none => .err)
    | _ => .err) Q E = _
  unfold lstAt
  cases h[p]? with
  | none => rfl
  | some o => cases o with
    | lst xs =>
      dsimp only
      rw [wo_some]
      cases toInts xs with
      | none => rfl
      | some ns =>
        rw [wo_some]
        dsimp only
        cases ns.idxOf? k <;> rfl
    | _ => rfl
theorem mt_cnt {p : Nat} {k : Int} : wp (mt .count (.ref p) [.int k] h) Q E = wo (lstAt h p) fun xs => wo (toInts xs) fun ns => Q (.int (ns.count k : Nat)) h := by
  show wp (match h[p]? with
    | some (.lst xs) => (match toInts xs with | some ns => .ok (.int (ns.count k : Nat)) h | none => .err)
    | _ => .err) Q E = _
  unfold lstAt
  cases h[p]? with
  | none => rfl
  | some o => cases o with
    | lst xs =>
      dsimp only
      rw [wo_some]
      cases toInts xs <;> rfl
    | _ => rfl
end
section
variable {Φ : Fn} {ρ : En} {h : Hw} {Q : Fl → En → Hw → Prop}
/-- behind a walk -/
def uq (n : Nat) (Q : Fl → En → Hw → Prop) : Fl → En → Hw → Prop
  | .rz e, ρ, h => Q (.rz e) ρ h
  | f, ρ, h => wo (dicLk h n) fun kvs => Q f ρ (h.set n (.dic false kvs))
theorem uq_n {n : Nat} : uq n Q .next ρ h = wo (dicLk h n) fun kvs => Q .next ρ (h.set n (.dic false kvs)) := rfl
theorem uq_b {n : Nat} : uq n Q .brk ρ h = wo (dicLk h n) fun kvs => Q .brk ρ (h.set n (.dic false kvs)) := rfl
theorem uq_c {n : Nat} : uq n Q .cont ρ h = wo (dicLk h n) fun kvs => Q .cont ρ (h.set n (.dic false kvs)) := rfl
theorem uq_r {n : Nat} {w : W} : uq n Q (.ret w) ρ h = wo (dicLk h n) fun kvs => Q (.ret w) ρ (h.set n (.dic false kvs)) := rfl
theorem uq_z {n : Nat} {e : Ex} : uq n Q (.rz e) ρ h = Q (.rz e) ρ h := rfl
theorem ws_lckS {g : IE} {s : IS} : wps (evS Φ (.lckS g s) ρ h) Q = wp (evE Φ g ρ h) (fun x _ => wo (refW x) fun n => wo (dicFr h n) fun kvs => wps (evS Φ s ρ (h.set n (.dic true kvs))) (uq n Q)) noE := by
  rw [evS, ← wo_lk (Q := fun p => wps (evS Φ s ρ (h.set p.1 (.dic true p.2))) (uq p.1 Q))]
  cases lkOf (evE Φ g ρ h) h with
  | none => rfl
  | some p =>
    obtain ⟨n, kvs⟩ := p
    rw [wo_some]
    dsimp only
    cases evS Φ s ρ (h.set n (.dic true kvs)) with
    | err => rfl
    | exc _ _ => rfl
    | ok q h' =>
      obtain ⟨f, ρ'⟩ := q
      cases f with
      | rz e => rfl
      | _ =>
        dsimp only
        rw [wps_ok]
        show _ = wo (dicLk h' n) _
        rw [← wo_unlk (Q := fun h2 => Q _ ρ' h2)]
        cases unlk n h' <;> rfl
end
end Ev

set_option Elab.async false
set_option linter.all false
set_option maxRecDepth 100000
set_option maxHeartbeats 1000000
/-! Nf: steps of a curve, the one normal form. -/
namespace Ev
open PySem
/-! == of whole numbers in tuples and lists -/
theorem toDs_ints {h : Hw} : ∀ a : List Int, W.toDs h (a.map W.int) = some (a.map PyData.int)
  | [] => rfl
  | i :: a => by
    rw [List.map_cons, W.toDs, toDs_ints a, W.toD]; rfl
theorem eqvAll_ints : ∀ a b : List Int, PyData.eqvAll (a.map PyData.int) (b.map PyData.int) = decide (a = b)
  | [], [] => by simp [PyData.eqvAll]
  | [], _ :: _ => by simp [PyData.eqvAll]
  | _ :: _, [] => by simp [PyData.eqvAll]
  | i :: a, j :: b => by
    rw [List.map_cons, List.map_cons, PyData.eqvAll, eqv_int, eqvAll_ints a b]
    simp
theorem depth_ints : ∀ a : List Int, PyData.depthAll (a.map PyData.int) ≤ 1
  | [] => by simp [PyData.depthAll]
  | i :: a => by
    have := depth_ints a
    simp only [List.map_cons, PyData.depthAll, PyData.depth]
    omega
theorem eqW_tints {h : Hw} {a b : List Int} : eqW (.tup (a.map W.int)) (.tup (b.map W.int)) h = some (decide (a = b)) := by
  have e : ∀ a : List Int, W.toD1 h (.tup (a.map W.int)) = some (.tuple (a.map PyData.int)) := fun a => by
    show W.toD h _ = _
    rw [W.toD, toDs_ints]; rfl
  unfold eqW
  rw [e, e]
  have d1 := depth_ints a
  have d2 := depth_ints b
  have hd : (PyData.tuple (a.map PyData.int)).depth ≤ 64 ∧ (PyData.tuple (b.map PyData.int)).depth ≤ 64 := by
    simp only [PyData.depth]; omega
  refine (if_pos hd).trans ?_
  rw [PyData.eqv, eqvAll_ints]
theorem toD1_lst {h : Hw} {p : Nat} {a : List Int} (e : lstAt h p = some (a.map W.int)) : W.toD1 h (.ref p) = some (.list (a.map PyData.int)) := by
  show (match h[p]? with
    | some (.lst xs) => (W.toDs h xs).map PyData.list
    | _ => none) = _
  rw [lstAt_get e]
  show (W.toDs h _).map _ = _
  rw [toDs_ints]; rfl
theorem eqW_lints {h : Hw} {p q : Nat} {a b : List Int} (e1 : lstAt h p = some (a.map W.int)) (e2 : lstAt h q = some (b.map W.int)) : eqW (.ref p) (.ref q) h = some (decide (a = b)) := by
  unfold eqW
  rw [toD1_lst e1, toD1_lst e2]
  have d1 := depth_ints a
  have d2 := depth_ints b
  have hd : (PyData.list (a.map PyData.int)).depth ≤ 64 ∧ (PyData.list (b.map PyData.int)).depth ≤ 64 := by
    simp only [PyData.depth]; omega
  refine (if_pos hd).trans ?_
  rw [PyData.eqv, eqvAll_ints]
/-! slices -/
theorem cut_drop {xs : List W} {k : Int} (h : 0 ≤ k) : cut xs (some k) none = xs.drop k.toNat := by
  have e1 : sIx xs.length 0 (some k) = min k.toNat xs.length := if_neg (by omega)
  unfold cut
  rw [e1]
  show List.take (xs.length - min k.toNat xs.length) _ = _
  by_cases c : k.toNat ≤ xs.length
  · rw [Nat.min_eq_left c, List.take_of_length_le (by simp)]
  · rw [Nat.min_eq_right (by omega), List.drop_eq_nil_of_le (by omega), List.drop_eq_nil_of_le (by omega)]; simp
theorem cut_take {xs : List W} {k : Int} (h : 0 ≤ k) : cut xs none (some k) = xs.take k.toNat := by
  have e1 : sIx xs.length xs.length (some k) = min k.toNat xs.length := if_neg (by omega)
  unfold cut
  rw [e1]
  show List.take (min k.toNat xs.length - 0) (List.drop 0 xs) = _
  rw [Nat.sub_zero, List.drop_zero]
  by_cases c : k.toNat ≤ xs.length
  · rw [Nat.min_eq_left c]
  · rw [Nat.min_eq_right (by omega), List.take_of_length_le (by omega), List.take_of_length_le (by omega)]
theorem cut_last {xs : List W} : cut xs (some (-1)) none = xs.drop (xs.length - 1) := by
  unfold cut
  have e1 : sIx xs.length 0 (some (-1)) = xs.length - 1 := by
    show (if (-1 : Int) < 0 then ((-1 : Int) + xs.length).toNat else min (-1 : Int).toNat xs.length) = _
    rw [if_pos (by decide)]; omega
  rw [e1]
  show List.take (xs.length - (xs.length - 1)) _ = _
  rw [List.take_of_length_le (by simp)]
theorem cut_init {xs : List W} : cut xs none (some (-1)) = xs.dropLast := by
  unfold cut
  have e1 : sIx xs.length xs.length (some (-1)) = xs.length - 1 := by
    show (if (-1 : Int) < 0 then ((-1 : Int) + xs.length).toNat else min (-1 : Int).toNat xs.length) = _
    rw [if_pos (by decide)]; omega
  rw [e1]
  show List.take (xs.length - 1 - 0) (List.drop 0 xs) = _
  rw [Nat.sub_zero, List.drop_zero, List.dropLast_eq_take]
theorem take_map (ns : List Int) (k : Nat) : (ns.map W.int).take k = (ns.take k).map W.int := (List.map_take).symm
theorem drop_map (ns : List Int) (k : Nat) : (ns.map W.int).drop k = (ns.drop k).map W.int := (List.map_drop).symm
/-! steps -/
def stp (hd tn : List Int) (k : Nat) : Int := if k < hd.length then (hd[k]?).getD 0 else (tn[(k - hd.length) % tn.length]?).getD 0
theorem stp_rot (hd r : List Int) (t : Int) (k : Nat) : stp (hd ++ [t]) (r ++ [t]) k = stp hd (t :: r) k := by
  unfold stp
  simp only [List.length_append, List.length_cons, List.length_nil, Nat.zero_add]
  by_cases c1 : k < hd.length
  · rw [if_pos (by omega), if_pos c1, List.getElem?_append_left c1]
  · rw [if_neg c1]
    by_cases c2 : k < hd.length + 1
    · rw [if_pos c2]
      have : k = hd.length := by omega
      subst this
      simp
    · rw [if_neg c2]
      obtain ⟨j, rfl⟩ : ∃ j, k = hd.length + 1 + j := ⟨k - (hd.length + 1), by omega⟩
      rw [show hd.length + 1 + j - (hd.length + 1) = j by omega, show hd.length + 1 + j - hd.length = j + 1 by omega]
      have hL : 0 < r.length + 1 := by omega
      have hm := Nat.mod_lt j hL
      by_cases c3 : j % (r.length + 1) = r.length
      · have e : (j + 1) % (r.length + 1) = 0 := by rw [Nat.add_mod, c3]; by_cases z : r.length = 0 <;> simp [z, Nat.mod_eq_of_lt, Nat.mod_one]
        rw [c3, e]
        simp
      · have e : (j + 1) % (r.length + 1) = j % (r.length + 1) + 1 := by
          rw [Nat.add_mod]
          by_cases z : r.length = 0
          · omega
          · rw [Nat.mod_eq_of_lt (show 1 < r.length + 1 by omega), Nat.mod_eq_of_lt (by omega)]
        rw [e, List.getElem?_append_left (by omega), List.getElem?_cons_succ]
theorem rep_get {α : Type} (tn : List α) : ∀ (m i : Nat), i < m * tn.length → (List.replicate m tn).flatten[i]? = tn[i % tn.length]? := by
  intro m
  induction m with
  | zero => intro i h; omega
  | succ m ih =>
    intro i h
    rw [List.replicate_succ, List.flatten_cons]
    by_cases c : i < tn.length
    · rw [List.getElem?_append_left c, Nat.mod_eq_of_lt c]
    · rw [List.getElem?_append_right (by omega), ih (i - tn.length) (by rw [Nat.add_mul] at h; omega)]
      congr 1
      rw [Nat.mod_eq_sub_mod (show i ≥ tn.length by omega)]
theorem rep_len {α : Type} (tn : List α) (m : Nat) : (List.replicate m tn).flatten.length = m * tn.length := by
  induction m with
  | zero => simp
  | succ m ih => rw [List.replicate_succ, List.flatten_cons, List.length_append, ih, Nat.add_mul]; omega
theorem stp_rep (hd tn : List Int) (m k : Nat) (hm : 0 < m) (ht : 0 < tn.length) : stp hd (List.replicate m tn).flatten k = stp hd tn k := by
  unfold stp
  by_cases c : k < hd.length
  · rw [if_pos c, if_pos c]
  · rw [if_neg c, if_neg c, rep_len, rep_get tn m _ (Nat.mod_lt _ (Nat.mul_pos hm ht)), Nat.mod_mul_left_mod]
theorem rep_map (tn : List Int) (m : Nat) : (List.replicate m (tn.map W.int)).flatten = (List.replicate m tn).flatten.map W.int := by
  induction m with
  | zero => rfl
  | succ m ih => rw [List.replicate_succ, List.replicate_succ, List.flatten_cons, List.flatten_cons, ih, List.map_append]
/-! periods -/
def Per (u : Nat → Int) (d n : Nat) : Prop := ∀ k, n ≤ k → u (k + d) = u k
theorem Per.mono {u : Nat → Int} {d n m : Nat} (h : Per u d n) (l : n ≤ m) : Per u d m := fun k hk => h k (by omega)
theorem Per.mul {u : Nat → Int} {d n : Nat} (h : Per u d n) : ∀ m, Per u (m * d) n
  | 0 => fun k _ => by rw [Nat.zero_mul, Nat.add_zero]
  | m + 1 => fun k hk => by rw [Nat.add_mul, Nat.one_mul, ← Nat.add_assoc, h (k + m * d) (by omega), h.mul m k hk]
theorem Per.sub {u : Nat → Int} {a b n : Nat} (ha : Per u a n) (hb : Per u b n) (l : b ≤ a) : Per u (a - b) n := fun k hk => by
  have h1 := hb (k + (a - b)) (by omega)
  rw [show k + (a - b) + b = k + a by omega, ha k hk] at h1
  exact h1.symm
theorem Per.mod {u : Nat → Int} {a b n : Nat} (ha : Per u a n) (hb : Per u b n) : Per u (a % b) n := by
  have h := Nat.div_add_mod a b
  have l : a / b * b ≤ a := by rw [Nat.mul_comm]; omega
  have := ha.sub (hb.mul (a / b)) l
  rwa [show a - a / b * b = a % b by rw [Nat.mul_comm]; omega] at this
theorem Per.gcd {u : Nat → Int} {n : Nat} : ∀ (a b : Nat), Per u a n → Per u b n → Per u (a.gcd b) n := by
  intro a b
  induction a, b using Nat.gcd.induction with
  | H0 b => intro _ hb; rw [Nat.gcd_zero_left]; exact hb
  | H1 a b ha ih =>
    intro h1 h2
    rw [Nat.gcd_rec]
    exact ih (h2.mod h1) h1
theorem per_stp (hd tn : List Int) : Per (stp hd tn) tn.length hd.length := fun k hk => by
  unfold stp
  rw [if_neg (by omega), if_neg (by omega), show k + tn.length - hd.length = k - hd.length + tn.length by omega, Nat.add_mod_right]
theorem stp_hd {hd tn : List Int} {k : Nat} (h : k < hd.length) : stp hd tn k = hd[k] := by
  unfold stp; rw [if_pos h, List.getElem?_eq_getElem h]; rfl
theorem stp_tn {hd tn : List Int} {k : Nat} (h : k < tn.length) : stp hd tn (hd.length + k) = tn[k] := by
  unfold stp; rw [if_neg (by omega), Nat.add_sub_cancel_left, Nat.mod_eq_of_lt h, List.getElem?_eq_getElem h]; rfl
/-- what has a period from n on and another from later on has it from n on -/
theorem Per.down {u : Nat → Int} {d L n m : Nat} (hL : 0 < L) (h : Per u L n) (g : Per u d m) : Per u d n := fun k hk => by
  have a := h.mul m
  have e : m ≤ m * L := Nat.le_mul_of_pos_right m hL
  rw [← a (k + d) (by omega), ← a k hk, show k + d + m * L = k + m * L + d by omega]
  exact g _ (by omega)
/-- the normal form of a curve with these steps -/
structure IsNf (u : Nat → Int) (hd tn : List Int) : Prop where
  pos : 0 < tn.length
  eq : ∀ k, stp hd tn k = u k
  min : ∀ d n, 0 < d → Per u d n → tn.length ≤ d
  pre : ∀ n, Per u tn.length n → hd.length ≤ n
theorem IsNf.unique {u : Nat → Int} {hd tn hd' tn' : List Int} (a : IsNf u hd tn) (b : IsNf u hd' tn') : hd = hd' ∧ tn = tn' := by
  have pa : Per u tn.length hd.length := fun k hk => by rw [← a.eq, ← a.eq]; exact per_stp hd tn k hk
  have pb : Per u tn'.length hd'.length := fun k hk => by rw [← b.eq, ← b.eq]; exact per_stp hd' tn' k hk
  have l1 : tn.length = tn'.length := Nat.le_antisymm (a.min _ _ b.pos pb) (b.min _ _ a.pos pa)
  have l2 : hd.length = hd'.length := Nat.le_antisymm (a.pre _ (l1 ▸ pb)) (b.pre _ (l1 ▸ pa))
  refine ⟨List.ext_getElem l2 fun i h1 h2 => ?_, List.ext_getElem l1 fun i h1 h2 => ?_⟩
  · have x := a.eq i
    have y := b.eq i
    rw [stp_hd h1] at x
    rw [stp_hd h2] at y
    rw [x, y]
  · have x := a.eq (hd.length + i)
    have y := b.eq (hd'.length + i)
    rw [stp_tn h1] at x
    rw [stp_tn h2] at y
    rw [x, y, l2]
theorem isNf_of {u : Nat → Int} {hd tn : List Int} (pos : 0 < tn.length) (eq : ∀ k, stp hd tn k = u k) (prim : ∀ d n, 0 < d → d ∣ tn.length → Per u d n → d = tn.length) (last : hd = [] ∨ hd.getLast? ≠ tn.getLast?) : IsNf u hd tn := by
  have pa : Per u tn.length hd.length := fun k hk => by rw [← eq, ← eq]; exact per_stp hd tn k hk
  refine ⟨pos, eq, fun d n hd0 hp => ?_, fun n hp => ?_⟩
  · have g := Per.gcd d tn.length (hp.mono (Nat.le_max_left n hd.length)) (pa.mono (Nat.le_max_right n hd.length))
    have e := prim _ _ (Nat.gcd_pos_of_pos_left _ hd0) (Nat.gcd_dvd_right d tn.length) g
    have d1 : tn.length ∣ d := by rw [← e]; exact Nat.gcd_dvd_left d tn.length
    exact Nat.le_of_dvd hd0 d1
  · rcases last with rfl | l
    · exact Nat.zero_le _
    · refine Nat.le_of_not_lt fun c => l ?_
      have h1 := hp (hd.length - 1) (by omega)
      rw [← eq, ← eq, stp_hd (hd := hd) (k := hd.length - 1) (by omega), show hd.length - 1 + tn.length = hd.length + (tn.length - 1) by omega, stp_tn (hd := hd) (tn := tn) (k := tn.length - 1) (by omega)] at h1
      rw [List.getLast?_eq_getElem?, List.getLast?_eq_getElem?, List.getElem?_eq_getElem (by omega), List.getElem?_eq_getElem (by omega), h1]
theorem isNf_self {u : Nat → Int} {hd tn : List Int} (a : IsNf u hd tn) : IsNf (stp hd tn) hd tn := by
  have : stp hd tn = u := funext a.eq
  rw [this]; exact a
/-! the two looks for a period -/
theorem per_of_ix {hd tn : List Int} {d : Nat} (hL : 0 < tn.length) (hd0 : 0 < d) (dv : d ∣ tn.length) (h : ∀ i, i < tn.length → tn[i]? = tn[i % d]?) : Per (stp hd tn) d hd.length := fun k hk => by
  unfold stp
  rw [if_neg (by omega), if_neg (by omega), show k + d - hd.length = k - hd.length + d by omega]
  have m1 := Nat.mod_lt (k - hd.length + d) hL
  have m2 := Nat.mod_lt (k - hd.length) hL
  rw [h _ m1, h _ m2, Nat.mod_mod_of_dvd _ dv, Nat.mod_mod_of_dvd _ dv, Nat.add_mod_right]
theorem ix_of_per {hd tn : List Int} {d : Nat} (hd0 : 0 < d) (hd1 : d ≤ tn.length) (h : Per (stp hd tn) d hd.length) (i : Nat) (hi : i < tn.length) : tn[i]? = tn[i % d]? := by
  have e := h.mul (i / d) (hd.length + i % d) (by omega)
  have l := Nat.mod_lt i hd0
  rw [show hd.length + i % d + i / d * d = hd.length + i by have := Nat.div_add_mod i d; rw [Nat.mul_comm] at this; omega, stp_tn hi, stp_tn (show i % d < tn.length by omega)] at e
  rw [List.getElem?_eq_getElem hi, List.getElem?_eq_getElem (show i % d < tn.length by omega), e]
theorem perA {hd tn : List Int} {d : Nat} (hL : 0 < tn.length) (hd0 : 0 < d) (dv : d ∣ tn.length) : (List.replicate (tn.length / d) (tn.take d)).flatten = tn ↔ Per (stp hd tn) d hd.length := by
  have hd1 := Nat.le_of_dvd hL dv
  have lt : (tn.take d).length = d := by rw [List.length_take]; exact Nat.min_eq_left hd1
  have key : ∀ i, i < tn.length → (List.replicate (tn.length / d) (tn.take d)).flatten[i]? = tn[i % d]? := fun i hi => by
    rw [rep_get _ _ _ (by rw [lt, Nat.div_mul_cancel dv]; exact hi), lt, List.getElem?_take_of_lt (Nat.mod_lt _ hd0)]
  constructor
  · intro e
    refine per_of_ix hL hd0 dv fun i hi => ?_
    rw [← key i hi, e]
  · intro p
    refine List.ext_getElem? fun i => ?_
    by_cases hi : i < tn.length
    · rw [key i hi, ix_of_per hd0 hd1 p i hi]
    · rw [List.getElem?_eq_none (by rw [rep_len, lt, Nat.div_mul_cancel dv]; omega), List.getElem?_eq_none (by omega)]
theorem perB {hd tn : List Int} {d : Nat} (hL : 0 < tn.length) (hd0 : 0 < d) (dv : d ∣ tn.length) : tn.drop d = tn.take (tn.length - d) ↔ Per (stp hd tn) d hd.length := by
  have hd1 := Nat.le_of_dvd hL dv
  constructor
  · intro e
    have st : ∀ i, i + d < tn.length → tn[i + d]? = tn[i]? := fun i hi => by
      have z := congrArg (fun l => l[i]?) e
      simp only [List.getElem?_drop] at z
      rw [List.getElem?_take_of_lt (by omega), Nat.add_comm] at z
      exact z
    refine per_of_ix hL hd0 dv fun i => ?_
    induction i using Nat.strongRecOn with
    | ind i ih =>
      intro hi
      by_cases c : i < d
      · rw [Nat.mod_eq_of_lt c]
      · have z := st (i - d) (by omega)
        rw [show i - d + d = i by omega] at z
        rw [z, ih (i - d) (by omega) (by omega), ← Nat.mod_eq_sub_mod (show i ≥ d by omega)]
  · intro p
    refine List.ext_getElem? fun i => ?_
    rw [List.getElem?_drop]
    by_cases c : i + d < tn.length
    · rw [List.getElem?_take_of_lt (by omega), Nat.add_comm d i, ix_of_per hd0 hd1 p (i + d) c, ix_of_per hd0 hd1 p i (by omega), Nat.add_mod_right]
    · rw [List.getElem?_eq_none (by omega), List.getElem?_eq_none (by rw [List.length_take]; omega)]
theorem stp_take {hd tn : List Int} {d : Nat} (hL : 0 < tn.length) (hd0 : 0 < d) (dv : d ∣ tn.length) (p : Per (stp hd tn) d hd.length) (k : Nat) : stp hd (tn.take d) k = stp hd tn k := by
  have hd1 := Nat.le_of_dvd hL dv
  have lt : (tn.take d).length = d := by rw [List.length_take]; exact Nat.min_eq_left hd1
  unfold stp
  by_cases c : k < hd.length
  · rw [if_pos c, if_pos c]
  · rw [if_neg c, if_neg c, lt, List.getElem?_take_of_lt (Nat.mod_lt _ hd0), ix_of_per hd0 hd1 p _ (Nat.mod_lt _ hL), Nat.mod_mod_of_dvd _ dv]
/-- the least period found by trying -/
structure Lp (u : Nat → Int) (H L size : Nat) : Prop where
  pos : 0 < size
  dv : size ∣ L
  per : Per u size H
  low : ∀ d, 0 < d → d < size → d ∣ L → ¬ Per u d H
theorem Lp.prim {u : Nat → Int} {H L size : Nat} (a : Lp u H L size) (hL : 0 < L) (pL : Per u L H) : ∀ d n, 0 < d → d ∣ size → Per u d n → d = size := fun d n h0 dv p => by
  have l := Nat.le_of_dvd a.pos dv
  rcases Nat.lt_or_ge d size with c | c
  · exact absurd (Per.down hL pL p) (a.low d h0 c (Nat.dvd_trans dv a.dv))
  · omega
/-- the period turned m places to the right -/
def rot (p : List Int) (m : Nat) : List Int := p.drop (p.length - m) ++ p.take (p.length - m)
theorem rot_len {p : List Int} {m : Nat} : (rot p m).length = p.length := by
  unfold rot; rw [List.length_append, List.length_drop, List.length_take]; omega
theorem rot_zero {p : List Int} : rot p 0 = p := by unfold rot; simp
theorem rot_full {p : List Int} : rot p p.length = p := by unfold rot; simp
theorem rot_split {p : List Int} {m : Nat} (h : m < p.length) : rot p m = (p.drop (p.length - m) ++ p.take (p.length - m - 1)) ++ [p[p.length - m - 1]] ∧ rot p (m + 1) = p[p.length - m - 1] :: (p.drop (p.length - m) ++ p.take (p.length - m - 1)) := by
  have e1 : p.take (p.length - m) = p.take (p.length - m - 1) ++ [p[p.length - m - 1]] := by
    have := List.take_append_getElem (l := p) (i := p.length - m - 1) (by omega)
    rw [this, show p.length - m - 1 + 1 = p.length - m by omega]
  have e2 : p.drop (p.length - (m + 1)) = p[p.length - m - 1] :: p.drop (p.length - m) := by
    have := List.drop_eq_getElem_cons (l := p) (i := p.length - m - 1) (by omega)
    rw [show p.length - m - 1 + 1 = p.length - m by omega] at this
    rw [show p.length - (m + 1) = p.length - m - 1 by omega, this]
  unfold rot
  constructor
  · rw [e1, List.append_assoc]
  · rw [e2, show p.length - (m + 1) = p.length - m - 1 by omega]; rfl
theorem rot_mod {p : List Int} {r : Nat} (h : 0 < p.length) : rot p (r % p.length + 1) = rot p ((r + 1) % p.length) := by
  have l := Nat.mod_lt r h
  by_cases c : r % p.length + 1 = p.length
  · rw [c, rot_full]
    have : (r + 1) % p.length = 0 := by
      rw [Nat.add_mod]
      by_cases z : p.length = 1
      · rw [z, Nat.mod_one]
      · rw [Nat.mod_eq_of_lt (show 1 < p.length by omega), c, Nat.mod_self]
    rw [this, rot_zero]
  · have : (r + 1) % p.length = r % p.length + 1 := by
      rw [Nat.add_mod]
      by_cases z : p.length = 1
      · omega
      · rw [Nat.mod_eq_of_lt (show 1 < p.length by omega), Nat.mod_eq_of_lt (by omega)]
    rw [this]
/-- one more taken off the transient part -/
theorem off_step {hd p : List Int} {r : Nat} (h0 : 0 < p.length) (h1 : r < hd.length) (e : hd[hd.length - 1 - r]? = p[p.length - 1 - r % p.length]?) (k : Nat) :
    stp (hd.take (hd.length - (r + 1))) (rot p ((r + 1) % p.length)) k = stp (hd.take (hd.length - r)) (rot p (r % p.length)) k := by
  have l := Nat.mod_lt r h0
  obtain ⟨e1, e2⟩ := rot_split (p := p) l
  have e3 : hd.take (hd.length - r) = hd.take (hd.length - (r + 1)) ++ [hd[hd.length - 1 - r]] := by
    have := List.take_append_getElem (l := hd) (i := hd.length - 1 - r) (by omega)
    rw [show hd.length - (r + 1) = hd.length - 1 - r by omega, this, show hd.length - 1 - r + 1 = hd.length - r by omega]
  have e4 : hd[hd.length - 1 - r] = p[p.length - r % p.length - 1] := by
    rw [List.getElem?_eq_getElem (by omega), List.getElem?_eq_getElem (by omega)] at e
    have := Option.some.inj e
    rw [this]
    congr 1; omega
  rw [e3, e1, e4, stp_rot, ← rot_mod h0, e2]
theorem off_last {hd p : List Int} {r : Nat} (h0 : 0 < p.length) (h1 : r < hd.length) (e : hd[hd.length - 1 - r]? ≠ p[p.length - 1 - r % p.length]?) : (hd.take (hd.length - r)).getLast? ≠ (rot p (r % p.length)).getLast? := by
  have l := Nat.mod_lt r h0
  obtain ⟨e1, e2⟩ := rot_split (p := p) l
  have e3 : hd.take (hd.length - r) = hd.take (hd.length - (r + 1)) ++ [hd[hd.length - 1 - r]] := by
    have := List.take_append_getElem (l := hd) (i := hd.length - 1 - r) (by omega)
    rw [show hd.length - (r + 1) = hd.length - 1 - r by omega, this, show hd.length - 1 - r + 1 = hd.length - r by omega]
  rw [e3, e1, List.getLast?_append, List.getLast?_append]
  simp only [List.getLast?_singleton, Option.some_or]
  intro z
  apply e
  rw [List.getElem?_eq_getElem (by omega), List.getElem?_eq_getElem (by omega), Option.some.inj z]
  congr 2; omega
/-- what a pure call leaves -/
structure Pf (h g : Hw) : Prop where
  len : h.length ≤ g.length
  same : ∀ i, i < h.length → g[i]? = h[i]?
theorem Pf.refl (h : Hw) : Pf h h := ⟨Nat.le_refl _, fun _ _ => rfl⟩
theorem Pf.app {h g : Hw} (a : Pf h g) (t : Hw) : Pf h (g ++ t) := ⟨by rw [List.length_append]; have := a.len; omega, fun i hi => by rw [List.getElem?_append_left (by have := a.len; omega)]; exact a.same i hi⟩
theorem Pf.put {h g : Hw} (a : Pf h g) {i : Nat} {o : O} (hi : h.length ≤ i) : Pf h (g.set i o) := ⟨by rw [List.length_set]; exact a.len, fun j hj => by rw [List.getElem?_set_ne (by omega)]; exact a.same j hj⟩
theorem Pf.lst {h g : Hw} (a : Pf h g) {i : Nat} (hi : i < h.length) : lstAt g i = lstAt h i := by unfold lstAt; rw [a.same i hi]
theorem tidy_pf {h g : Hw} {w : W} (a : Pf h g) (b : w.blw h.length) : tidy h w g = .ok w h := by
  unfold tidy
  rw [if_pos ⟨a.len, fun i o hi e => .inl (by rw [← a.same i hi]; exact e)⟩, if_pos b]
  congr 1
  refine List.ext_getElem? fun i => ?_
  by_cases c : i < h.length
  · rw [List.getElem?_take_of_lt c, a.same i c]
  · rw [List.getElem?_eq_none (by rw [List.length_take]; omega), List.getElem?_eq_none (by omega)]
end Ev

set_option Elab.async false
set_option linter.all false
set_option maxRecDepth 100000
/-! Nf2: sums of steps, the values of curves, equal pairs of parts. -/
namespace Ev
open PySem
def psum (u : Nat → Int) : Nat → Int
  | 0 => 0
  | n + 1 => psum u n + u n
theorem psum_congr {u v : Nat → Int} : ∀ (n : Nat), (∀ k, k < n → u k = v k) → psum u n = psum v n
  | 0, _ => rfl
  | n + 1, h => by unfold psum; rw [psum_congr n fun k hk => h k (by omega), h n (by omega)]
theorem psum_add (u : Nat → Int) (a : Nat) : ∀ b, psum u (a + b) = psum u a + psum (fun k => u (a + k)) b
  | 0 => by simp [psum]
  | b + 1 => by
    have e1 : psum u (a + (b + 1)) = psum u (a + b) + u (a + b) := rfl
    have e2 : psum (fun k => u (a + k)) (b + 1) = psum (fun k => u (a + k)) b + u (a + b) := rfl
    rw [e1, e2, psum_add u a b]; omega
theorem take_psum (l : List Int) : ∀ (n : Nat), n ≤ l.length → (l.take n).sum = psum (fun k => (l[k]?).getD 0) n
  | 0, _ => by simp [psum]
  | n + 1, h => by
    unfold psum
    rw [← take_psum l n (by omega), List.take_succ, List.sum_append, List.getElem?_eq_getElem (by omega)]
    simp
/-- the value by the formula -/
def val (i : Int) (hd tn : List Int) (x : Int) : Int := if x ≤ hd.length then i + (hd.take x.toNat).sum else i + hd.sum + (x - hd.length) / tn.length * tn.sum + (tn.take ((x - hd.length) % tn.length).toNat).sum
theorem per_psum (tn : List Int) (r : Nat) (hr : r ≤ tn.length) : ∀ q : Nat, psum (fun k => (tn[k % tn.length]?).getD 0) (q * tn.length + r) = q * tn.sum + (tn.take r).sum := by
  have base : ∀ r, r ≤ tn.length → psum (fun k => (tn[k % tn.length]?).getD 0) r = (tn.take r).sum := fun r hr => by
    rw [take_psum tn r hr]
    exact psum_congr r fun k hk => by rw [Nat.mod_eq_of_lt (by omega)]
  intro q
  induction q with
  | zero => simp; exact base r hr
  | succ q ih =>
    have e : (q + 1) * tn.length + r = tn.length + (q * tn.length + r) := by rw [Nat.add_mul]; omega
    rw [e, psum_add, base tn.length (Nat.le_refl _), List.take_length]
    have : psum (fun k => (fun k => (tn[k % tn.length]?).getD 0) (tn.length + k)) (q * tn.length + r) = psum (fun k => (tn[k % tn.length]?).getD 0) (q * tn.length + r) := psum_congr _ fun k _ => by
      show (tn[(tn.length + k) % tn.length]?).getD 0 = _
      rw [Nat.add_mod_left]
    rw [this, ih, Int.natCast_add, Int.add_mul]
    simp; omega
theorem val_nat (i : Int) (hd tn : List Int) (ht : 0 < tn.length) (n : Nat) : val i hd tn n = i + psum (stp hd tn) n := by
  unfold val
  have hs : ∀ m, m ≤ hd.length → psum (stp hd tn) m = (hd.take m).sum := fun m hm => by
    rw [take_psum hd m hm]
    exact psum_congr m fun k hk => by unfold stp; rw [if_pos (by omega)]
  by_cases c : n ≤ hd.length
  · rw [if_pos (by omega), Int.toNat_natCast, hs n c]
  · rw [if_neg (by omega)]
    obtain ⟨m, rfl⟩ : ∃ m, n = hd.length + m := ⟨n - hd.length, by omega⟩
    rw [psum_add, hs _ (Nat.le_refl _), List.take_length]
    have e1 : psum (fun k => stp hd tn (hd.length + k)) m = psum (fun k => (tn[k % tn.length]?).getD 0) m := psum_congr m fun k _ => by
      unfold stp; rw [if_neg (by omega), Nat.add_sub_cancel_left]
    have e2 : m = m / tn.length * tn.length + m % tn.length := by rw [Nat.mul_comm]; exact (Nat.div_add_mod m tn.length).symm
    have e3 := per_psum tn (m % tn.length) (Nat.le_of_lt (Nat.mod_lt _ ht)) (m / tn.length)
    rw [← e2] at e3
    have e4 : ((hd.length + m : Nat) : Int) - (hd.length : Int) = (m : Int) := by omega
    rw [e1, e3, e4, ← Int.natCast_emod, Int.toNat_natCast, Int.natCast_ediv]
    omega
theorem psum_nn {u : Nat → Int} (h : ∀ k, 0 ≤ u k) : ∀ n, 0 ≤ psum u n
  | 0 => by simp [psum]
  | n + 1 => by unfold psum; have := psum_nn h n; have := h n; omega
theorem psum_mono {u : Nat → Int} (h : ∀ k, 0 ≤ u k) {a b : Nat} (l : a ≤ b) : psum u a ≤ psum u b := by
  obtain ⟨c, rfl⟩ : ∃ c, b = a + c := ⟨b - a, by omega⟩
  rw [psum_add]; have := psum_nn (fun k => h (a + k)) c; omega
/-- the differences of the first values -/
def dif (vs : List Int) (n : Nat) : List Int := (List.range n).map fun k => (vs[k + 1]?).getD 0 - (vs[k]?).getD 0
theorem dif_len {vs : List Int} {n : Nat} : (dif vs n).length = n := by unfold dif; simp
theorem dif_get {vs : List Int} {n k : Nat} (h : k < n) : (dif vs n)[k]? = some ((vs[k + 1]?).getD 0 - (vs[k]?).getD 0) := by
  unfold dif; rw [List.getElem?_map, List.getElem?_range h]; rfl
/-- steps that repeat from a place on are those of the table -/
theorem stp_dif {u : Nat → Int} {d : List Int} {start L : Nat} (hl : d.length = start + L) (h0 : 0 < L) (h : ∀ k, k < start + L → (d[k]?).getD 0 = u k) (p : Per u L start) (k : Nat) : stp (d.take start) (d.drop start) k = u k := by
  unfold stp
  rw [List.length_take, Nat.min_eq_left (by omega), List.length_drop, hl, Nat.add_sub_cancel_left]
  by_cases c : k < start
  · rw [if_pos c, List.getElem?_take_of_lt c]; exact h k (by omega)
  · rw [if_neg c, List.getElem?_drop, h _ (by have := Nat.mod_lt (k - start) h0; omega)]
    have e : k = (k - start) / L * L + (start + (k - start) % L) := by
      have := Nat.div_add_mod (k - start) L
      rw [Nat.mul_comm] at this
      omega
    have := (p.mul ((k - start) / L)) (start + (k - start) % L) (by omega)
    rw [Nat.add_comm, ← e] at this
    exact this.symm
/-- two sequences that repeat alike from a place on are equal when they are so in the beginning -/
theorem per_eq {u v : Nat → Int} {n L : Nat} (h0 : 0 < L) (pu : Per u L n) (pv : Per v L n) (h : ∀ k, k < n + L → u k = v k) (k : Nat) : u k = v k := by
  by_cases c : k < n
  · exact h k (by omega)
  · have e : k = (k - n) / L * L + (n + (k - n) % L) := by
      have := Nat.div_add_mod (k - n) L
      rw [Nat.mul_comm] at this
      omega
    have a := (pu.mul ((k - n) / L)) (n + (k - n) % L) (by omega)
    have b := (pv.mul ((k - n) / L)) (n + (k - n) % L) (by omega)
    rw [Nat.add_comm, ← e] at a b
    rw [a, b]
    exact h _ (by have := Nat.mod_lt (k - n) h0; omega)
/-- a pair of parts -/
def rt (hd tn : List Int) : W := .tup [.tup (hd.map W.int), .tup (tn.map W.int)]
theorem toD1_rt {h : Hw} {a b : List Int} : W.toD1 h (rt a b) = some (.tuple [.tuple (a.map PyData.int), .tuple (b.map PyData.int)]) := by
  show W.toD h _ = _
  unfold rt
  have e : ∀ a : List Int, W.toD h (.tup (a.map W.int)) = some (.tuple (a.map PyData.int)) := fun a => by
    rw [W.toD, toDs_ints]; rfl
  rw [W.toD, W.toDs, e, W.toDs, e, W.toDs]
  rfl
theorem eqW_rt {h : Hw} {a b c d : List Int} : eqW (rt a b) (rt c d) h = some (decide (a = c ∧ b = d)) := by
  unfold eqW
  rw [toD1_rt, toD1_rt]
  have d1 := depth_ints a
  have d2 := depth_ints b
  have d3 := depth_ints c
  have d4 := depth_ints d
  have hd : (PyData.tuple [.tuple (a.map PyData.int), .tuple (b.map PyData.int)]).depth ≤ 64 ∧ (PyData.tuple [.tuple (c.map PyData.int), .tuple (d.map PyData.int)]).depth ≤ 64 := by
    simp only [PyData.depth, PyData.depthAll]; omega
  refine (if_pos hd).trans ?_
  simp only [PyData.eqv, PyData.eqvAll, eqvAll_ints, Bool.and_true, Bool.decide_and]

/-- a comprehension whose elements are told by a function, the heap as before -/
theorem wp_compF {α : Type} (f : α → W) (as : List α) (F : α → W) {g : IG} {gu : Gu} {test : En → Hw → Res Bool} {elt : En → Hw → Res W} {own : List Nat} {ρ : En} {h : Hw} {Q : List W → Hw → Prop} {E : Ex → Hw → Prop} (hg : guOk gu h) (hl : as.length < 16777216)
    (step : ∀ a, a ∈ as → wo (asg g (f a) (wipe ρ own)) fun ρ' => wp (test ρ' h) (fun k h' => br k (wp (elt ρ' h') (fun y g => y = F a ∧ g = h) noE) False) noE)
    (fin : Q (as.map F) h) : wp (compL g gu test elt own ρ (as.map f) h []) Q E := by
  refine wp_comp f as (fun pre g acc => g = h ∧ acc = pre.map F ∧ pre.length ≤ as.length) (fun _ _ _ z => by rw [z.1]; exact hg) ?_ ⟨rfl, rfl, by simp⟩ ?_
  · rintro pre a suf g acc e ⟨rfl, rfl, _⟩
    have s := step a (by rw [e]; simp)
    have hl2 : pre.length < as.length := by rw [e]; simp
    generalize asg _ _ _ = o at s ⊢
    cases o with
    | none => exact s
    | some ρ' =>
      refine wp_mono (show wp _ _ noE from s) (fun k g1 b => ?_) (fun _ _ z => z)
      cases k with
      | false => exact b.elim
      | true => exact wp_mono (show wp _ _ noE from b) (fun y g2 z => ⟨by simp; omega, z.2, by rw [z.1, List.map_append]; rfl, by simp; omega⟩) (fun _ _ z => z)
  · rintro g acc ⟨rfl, rfl, _⟩
    exact fin
theorem wp_compRF {lo : Int} {n : Nat} (F : Nat → W) {g : IG} {test : En → Hw → Res Bool} {elt : En → Hw → Res W} {own : List Nat} {ρ : En} {h : Hw} {Q : List W → Hw → Prop} {E : Ex → Hw → Prop} (hl : n < 16777216)
    (step : ∀ i : Nat, i < n → wo (asg g (.int (lo + (i : Int))) (wipe ρ own)) fun ρ' => wp (test ρ' h) (fun k h' => br k (wp (elt ρ' h') (fun y g => y = F i ∧ g = h) noE) False) noE)
    (fin : Q ((List.range n).map F) h) : wp (compL g [] test elt own ρ (rng lo n) h []) Q E := by
  rw [rng_map]
  exact wp_compF (fun (i : Nat) => W.int (lo + (i : Int))) (List.range n) F guOk_nil (by simpa using hl) (fun a ha => step a (List.mem_range.mp ha)) fin

theorem IsNf.congr {u v : Nat → Int} {hd tn : List Int} (a : IsNf u hd tn) (e : ∀ k, u k = v k) : IsNf v hd tn := by
  have : u = v := funext e
  rw [← this]; exact a
/-- the table of differences of values w -/
theorem dif_eq {vs : List Int} {n : Nat} {u w : Nat → Int} (hv : ∀ k, k ≤ n → vs[k]? = some (w k)) (hu : ∀ k, k < n → w (k + 1) - w k = u k) (k : Nat) (hk : k < n) : ((dif vs n)[k]?).getD 0 = u k := by
  rw [dif_get hk, hv k (by omega), hv (k + 1) (by omega)]
  exact hu k hk

theorem psum_hd {hd tn : List Int} {m : Nat} (hm : m ≤ hd.length) : psum (stp hd tn) m = (hd.take m).sum := by
  rw [take_psum hd m hm]
  exact psum_congr m fun k hk => by unfold stp; rw [if_pos (by omega)]
theorem psum_at {hd tn : List Int} {q r : Nat} (hr : r ≤ tn.length) : psum (stp hd tn) (hd.length + (q * tn.length + r)) = hd.sum + q * tn.sum + (tn.take r).sum := by
  rw [psum_add, psum_hd (Nat.le_refl _), List.take_length]
  have e1 : psum (fun k => stp hd tn (hd.length + k)) (q * tn.length + r) = psum (fun k => (tn[k % tn.length]?).getD 0) (q * tn.length + r) := psum_congr _ fun k _ => by
    unfold stp; rw [if_neg (by omega), Nat.add_sub_cancel_left]
  rw [e1, per_psum tn r hr q]; omega
theorem psum_pre {pre suf tn : List Int} : psum (stp (pre ++ suf) tn) pre.length = pre.sum := by
  rw [psum_hd (by simp), List.take_left']; rfl
theorem psum_mid {hd pre suf : List Int} {q : Nat} : psum (stp hd (pre ++ suf)) (hd.length + (q * (pre ++ suf).length + pre.length)) = hd.sum + q * (pre ++ suf).sum + pre.sum := by
  rw [psum_at (by simp), List.take_left']; rfl
theorem stp_all {P : Int → Prop} {hd tn : List Int} (h0 : 0 < tn.length) (h1 : ∀ x ∈ hd, P x) (h2 : ∀ x ∈ tn, P x) (k : Nat) : P (stp hd tn k) := by
  unfold stp
  by_cases c : k < hd.length
  · rw [if_pos c, List.getElem?_eq_getElem c]; exact h1 _ (List.getElem_mem c)
  · have := Nat.mod_lt (k - hd.length) h0
    rw [if_neg c, List.getElem?_eq_getElem this]; exact h2 _ (List.getElem_mem this)
/-- the least place with a value of at least x -/
structure Least (i : Int) (u : Nat → Int) (x : Int) (n : Nat) : Prop where
  ge : x ≤ i + psum u n
  lt : ∀ m, m < n → i + psum u m < x
theorem Least.zero {i : Int} {u : Nat → Int} {x : Int} (h : x ≤ i) : Least i u x 0 := ⟨by simp [psum]; exact h, fun m hm => by omega⟩
theorem Least.succ {i : Int} {u : Nat → Int} {x : Int} {n : Nat} (hu : ∀ k, 0 ≤ u k) (a : x ≤ i + psum u (n + 1)) (b : i + psum u n < x) : Least i u x (n + 1) := ⟨a, fun m hm => by
  have := psum_mono hu (show m ≤ n by omega)
  omega⟩
theorem Least.iff {i : Int} {u : Nat → Int} {x : Int} {n : Nat} (hu : ∀ k, 0 ≤ u k) (a : Least i u x n) (m : Nat) : n ≤ m ↔ x ≤ i + psum u m := by
  constructor
  · intro l; have := psum_mono hu l; have := a.ge; omega
  · intro l
    refine Nat.le_of_not_lt fun c => ?_
    have := a.lt m c
    omega
theorem Least.unique {i : Int} {u : Nat → Int} {x : Int} {n m : Nat} (a : Least i u x n) (b : Least i u x m) : n = m := by
  rcases Nat.lt_trichotomy n m with c | c | c
  · have := b.lt n c; have := a.ge; omega
  · exact c
  · have := a.lt m c; have := b.ge; omega
/-- the greatest place with a value of at most x -/
structure Most (i : Int) (u : Nat → Int) (x : Int) (n : Nat) : Prop where
  le : i + psum u n ≤ x
  gt : x < i + psum u (n + 1)
theorem Most.least {i : Int} {u : Nat → Int} {x : Int} {n : Nat} (hu : ∀ k, 0 ≤ u k) (a : Most i u x n) : Least i u (x + 1) (n + 1) := Least.succ hu (by have := a.gt; omega) (by have := a.le; omega)
theorem Least.most {i : Int} {u : Nat → Int} {x : Int} {n : Nat} (a : Least i u (x + 1) (n + 1)) : Most i u x n := ⟨by have := a.lt n (by omega); omega, by have := a.ge; omega⟩
theorem quo_bd {a s : Int} (hs : 0 < s) (ha : 0 ≤ a) : ∃ q : Nat, a / s = q ∧ (q : Int) * s ≤ a ∧ a < (q : Int) * s + s := by
  have h0 := Int.ediv_nonneg ha (Int.le_of_lt hs)
  have h1 := Int.emod_add_mul_ediv a s
  have h2 := Int.emod_nonneg a (Int.ne_of_gt hs)
  have h3 := Int.emod_lt_of_pos a hs
  refine ⟨(a / s).toNat, by omega, ?_, ?_⟩
  · rw [Int.toNat_of_nonneg h0, Int.mul_comm]; omega
  · rw [Int.toNat_of_nonneg h0, Int.mul_comm]; omega

/-- a curve -/
def cv (i : Int) (hd tn : List Int) : W := .tup [.int i, .tup (hd.map W.int), .tup (tn.map W.int)]
theorem rt_blw {n : Nat} {hd tn : List Int} : (rt hd tn).blw n := blw_tup (blws_cons (blw_tup (blws_ints _)) (blws_cons (blw_tup (blws_ints _)) blws_nil))
theorem cv_blw {n : Nat} {i : Int} {hd tn : List Int} : (cv i hd tn).blw n := blw_tup (blws_cons blw_int (blws_cons (blw_tup (blws_ints _)) (blws_cons (blw_tup (blws_ints _)) blws_nil)))
theorem seqOf_rt {h : Hw} {hd tn : List Int} : seqOf h (rt hd tn) = some [.tup (hd.map W.int), .tup (tn.map W.int)] := rfl
theorem seqOf_cv {h : Hw} {i : Int} {hd tn : List Int} : seqOf h (cv i hd tn) = some [.int i, .tup (hd.map W.int), .tup (tn.map W.int)] := rfl
theorem isNon_rt {hd tn : List Int} : isNon (rt hd tn) = false := rfl
theorem isNon_cv {i : Int} {hd tn : List Int} : isNon (cv i hd tn) = false := rfl
theorem isTup_rt {hd tn : List Int} : isTup (rt hd tn) = true := rfl
theorem isTup_cv {i : Int} {hd tn : List Int} : isTup (cv i hd tn) = true := rfl
theorem guOf_rt {hd tn : List Int} {xs : List W} : guOf (rt hd tn) xs = [] := rfl
theorem guOf_cv {i : Int} {hd tn : List Int} {xs : List W} : guOf (cv i hd tn) xs = [] := rfl
theorem isTy_rt {hd tn : List Int} {t : Ty} {h : Hw} : isTy (rt hd tn) t h = isTy (.tup []) t h := by cases t <;> rfl
theorem isTy_cv {i : Int} {hd tn : List Int} {t : Ty} {h : Hw} : isTy (cv i hd tn) t h = isTy (.tup []) t h := by cases t <;> rfl
theorem asg_rt {i j : Nat} {hd tn : List Int} {ρ : En} : asg (.tup [.var i, .var j]) (rt hd tn) ρ = some ((ρ.set i (some (.tup (hd.map W.int)))).set j (some (.tup (tn.map W.int)))) := asg_tup2
theorem asg_cv {i j k : Nat} {a : Int} {hd tn : List Int} {ρ : En} : asg (.tup [.var i, .var j, .var k]) (cv a hd tn) ρ = some (((ρ.set i (some (.int a))).set j (some (.tup (hd.map W.int)))).set k (some (.tup (tn.map W.int)))) := asg_tup3
theorem cv_eq {i : Int} {hd tn : List Int} : W.tup [.int i, .tup (hd.map W.int), .tup (tn.map W.int)] = cv i hd tn := rfl
theorem rt_eq {hd tn : List Int} : W.tup [.tup (hd.map W.int), .tup (tn.map W.int)] = rt hd tn := rfl
theorem lst_new {g t : Hw} {n i : Nat} (e : g.length = n) (h : n ≤ i) : lstAt (g ++ t) i = lstAt t (i - n) := by
  unfold lstAt; rw [List.getElem?_append_right (by omega), e]
theorem lst_old {g t : Hw} {i : Nat} (h : i < g.length) : lstAt (g ++ t) i = lstAt g i := lstAt_al h
theorem sum_bd (b : Int) : ∀ (l : List Int), (∀ x ∈ l, 0 ≤ x ∧ x ≤ b) → 0 ≤ l.sum ∧ l.sum ≤ l.length * b := by
  intro l
  induction l with
  | nil => intro _; simp
  | cons y l ih =>
    intro h
    have h1 := h y (by simp)
    have h2 := ih fun x hx => h x (by simp [hx])
    have e : ((y :: l).length : Int) * b = l.length * b + b := by
      rw [List.length_cons, Int.natCast_add, Int.add_mul]; simp
    rw [List.sum_cons]; omega
/-- the first values -/
def vals (i : Int) (u : Nat → Int) (m : Nat) : List Int := (List.range m).map fun n => i + psum u n
theorem vals_len {i : Int} {u : Nat → Int} {m : Nat} : (vals i u m).length = m := by unfold vals; simp
theorem vals_get {i : Int} {u : Nat → Int} {m n : Nat} (h : n < m) : (vals i u m)[n]? = some (i + psum u n) := by
  unfold vals; rw [List.getElem?_map, List.getElem?_range h]; rfl
theorem vals_succ {i : Int} {u : Nat → Int} {m : Nat} : vals i u (m + 1) = vals i u m ++ [i + psum u m] := by
  unfold vals; rw [List.range_succ, List.map_append]; rfl
theorem steps_get {hd tn : List Int} {r j : Nat} (ht : 0 < tn.length) (hj : j < hd.length + r * tn.length) : (hd ++ (List.replicate r tn).flatten)[j]? = some (stp hd tn j) := by
  by_cases c : j < hd.length
  · rw [List.getElem?_append_left c, stp_hd c, List.getElem?_eq_getElem c]
  · rw [List.getElem?_append_right (by omega), rep_get tn r (j - hd.length) (by omega)]
    have := Nat.mod_lt (j - hd.length) ht
    unfold stp
    rw [if_neg c, List.getElem?_eq_getElem this]; rfl
theorem set_last {α : Type} {h : List α} {x y : α} : (h ++ [x]).set h.length y = h ++ [y] := by
  rw [List.set_append_right _ _ (Nat.le_refl _), Nat.sub_self]; rfl
theorem psum_dif {w : Nat → Int} : ∀ n, psum (fun k => w (k + 1) - w k) n = w n - w 0
  | 0 => by simp [psum]
  | n + 1 => by
    have e : psum (fun k => w (k + 1) - w k) (n + 1) = psum (fun k => w (k + 1) - w k) n + (w (n + 1) - w n) := rfl
    rw [e, psum_dif n]; omega
theorem isNf_last {hd tn : List Int} (N : IsNf (stp hd tn) hd tn) (hh : 0 < hd.length) : hd.getLast? ≠ tn.getLast? := by
  intro e
  have hL := N.pos
  rw [List.getLast?_eq_getElem?, List.getLast?_eq_getElem?, List.getElem?_eq_getElem (by omega), List.getElem?_eq_getElem (by omega)] at e
  have e' := Option.some.inj e
  have := N.pre (hd.length - 1) fun k hk => by
    by_cases c : k = hd.length - 1
    · subst c
      rw [stp_hd (hd := hd) (k := hd.length - 1) (by omega), show hd.length - 1 + tn.length = hd.length + (tn.length - 1) by omega, stp_tn (hd := hd) (tn := tn) (k := tn.length - 1) (by omega)]
      exact e'.symm
    · exact per_stp hd tn k (by omega)
  omega
theorem IsNf.all {u : Nat → Int} {hd tn : List Int} {P : Int → Prop} (N : IsNf u hd tn) (h : ∀ k, P (u k)) : (∀ x ∈ hd, P x) ∧ ∀ x ∈ tn, P x := by
  constructor
  · intro x hx
    obtain ⟨i, hi, rfl⟩ := List.mem_iff_getElem.mp hx
    rw [← stp_hd (tn := tn) hi, N.eq]; exact h _
  · intro x hx
    obtain ⟨i, hi, rfl⟩ := List.mem_iff_getElem.mp hx
    rw [← stp_tn (hd := hd) hi, N.eq]; exact h _
theorem sum_zero : ∀ (l : List Int), (∀ x ∈ l, 0 ≤ x) → l.sum ≤ 0 → ∀ x ∈ l, x = 0
  | [], _, _, x, hx => by simp at hx
  | y :: l, h, s, x, hx => by
    have p : ∀ (l : List Int), (∀ x ∈ l, 0 ≤ x) → 0 ≤ l.sum := by
      intro l
      induction l with
      | nil => intro _; simp
      | cons y l ih => intro h; have := h y (by simp); have := ih fun x hx => h x (by simp [hx]); rw [List.sum_cons]; omega
    rw [List.sum_cons] at s
    have h0 := h y (by simp)
    have h1 := p l fun x hx => h x (by simp [hx])
    rcases List.mem_cons.mp hx with rfl | z
    · omega
    · exact sum_zero l (fun x hx => h x (by simp [hx])) (by omega) x z
theorem tr_cv {i : Int} {hd tn : List Int} {h : Hw} : truth (cv i hd tn) h = some true := rfl
theorem tr_rt {hd tn : List Int} {h : Hw} : truth (rt hd tn) h = some true := rfl
theorem rng0 {n : Nat} : rng 0 n = (List.range n).map fun i : Nat => W.int i := by
  rw [rng_map]; simp only [Int.zero_add]
theorem Pf.trans {a b c : Hw} (x : Pf a b) (y : Pf b c) : Pf a c := ⟨Nat.le_trans x.len y.len, fun j hj => (y.same j (Nat.lt_of_lt_of_le hj x.len)).trans (x.same j hj)⟩
theorem nat_int {r : Int} (h : 0 ≤ r) : W.int r = W.int (r.toNat : Int) := by rw [Int.toNat_of_nonneg h]
theorem mem_le_sum : ∀ (l : List Int), (∀ x ∈ l, 0 ≤ x) → ∀ x ∈ l, x ≤ l.sum
  | [], _, x, hx => by simp at hx
  | y :: l, h, x, hx => by
    have p : ∀ (l : List Int), (∀ x ∈ l, 0 ≤ x) → 0 ≤ l.sum := by
      intro l
      induction l with
      | nil => intro _; simp
      | cons y l ih => intro h; have := h y (by simp); have := ih fun x hx => h x (by simp [hx]); rw [List.sum_cons]; omega
    rw [List.sum_cons]
    have h0 := h y (by simp)
    have h1 := p l fun x hx => h x (by simp [hx])
    rcases List.mem_cons.mp hx with rfl | z
    · omega
    · have := mem_le_sum l (fun x hx => h x (by simp [hx])) x z; omega
theorem set_all {P : Int → Prop} {l : List Int} {j : Nat} {v : Int} (h : ∀ x ∈ l, P x) (hv : P v) : ∀ x ∈ l.set j v, P x := fun x hx => by
  rcases List.mem_or_eq_of_mem_set hx with z | z
  · exact h x z
  · rw [z]; exact hv
theorem set_pos {l : List Int} {j : Nat} {v : Int} (h : ∀ x ∈ l, 0 ≤ x) (hv : 0 < v) (hj : j < l.length) : 0 < (l.set j v).sum := by
  have := mem_le_sum (l.set j v) (set_all h (by omega)) v (List.mem_set hj v)
  omega
theorem md_nat {x H L : Nat} (h : H ≤ x) : ((x : Int) - (H : Int)) % (L : Int) = (((x - H) % L : Nat) : Int) := by
  rw [Int.natCast_emod]; congr 1; omega
theorem ints_ge {xs : List Int} {i : Nat} : (xs.map W.int)[i]? = (xs[i]?).map W.int := by rw [List.getElem?_map]
theorem psum_le {u : Nat → Int} {b : Int} (h : ∀ k, u k ≤ b) : ∀ n : Nat, psum u n ≤ n * b
  | 0 => by simp [psum]
  | n + 1 => by
    have e : psum u (n + 1) = psum u n + u n := rfl
    have := psum_le h n
    have := h n
    rw [e, Int.natCast_add, Int.add_mul]; omega
theorem psum_per {hd tn : List Int} {n : Nat} (h0 : 0 < tn.length) (h : hd.length ≤ n) : psum (stp hd tn) (n + tn.length) = psum (stp hd tn) n + tn.sum := by
  have e : n = hd.length + ((n - hd.length) / tn.length * tn.length + (n - hd.length) % tn.length) := by
    have := Nat.div_add_mod (n - hd.length) tn.length
    rw [Nat.mul_comm] at this
    omega
  have hr := Nat.mod_lt (n - hd.length) h0
  have a := psum_at (hd := hd) (tn := tn) (q := (n - hd.length) / tn.length) (r := (n - hd.length) % tn.length) (Nat.le_of_lt hr)
  have b := psum_at (hd := hd) (tn := tn) (q := (n - hd.length) / tn.length + 1) (r := (n - hd.length) % tn.length) (Nat.le_of_lt hr)
  rw [← e] at a
  have e2 : hd.length + (((n - hd.length) / tn.length + 1) * tn.length + (n - hd.length) % tn.length) = n + tn.length := by
    rw [Nat.add_mul]; omega
  rw [e2] at b
  rw [a, b, Int.natCast_add, Int.add_mul]; simp; omega
theorem psum_pers {hd tn : List Int} {n : Nat} (h0 : 0 < tn.length) (h : hd.length ≤ n) : ∀ k : Nat, psum (stp hd tn) (n + k * tn.length) = psum (stp hd tn) n + k * tn.sum
  | 0 => by simp
  | k + 1 => by
    have e : n + (k + 1) * tn.length = (n + k * tn.length) + tn.length := by rw [Nat.add_mul]; omega
    rw [e, psum_per h0 (by omega), psum_pers h0 h k, Int.natCast_add, Int.add_mul]; simp; omega
theorem Most.unique {i : Int} {u : Nat → Int} {x : Int} {n m : Nat} (hu : ∀ k, 0 ≤ u k) (a : Most i u x n) (b : Most i u x m) : n = m := by
  have := (a.least hu).unique (b.least hu)
  omega
theorem Most.iff {i : Int} {u : Nat → Int} {x : Int} {n : Nat} (hu : ∀ k, 0 ≤ u k) (a : Most i u x n) (m : Nat) : m ≤ n ↔ i + psum u m ≤ x := by
  have := (a.least hu).iff hu m
  constructor
  · intro l
    have := psum_mono hu l
    have := a.le
    omega
  · intro l
    refine Nat.le_of_not_lt fun c => ?_
    have := this.mp c
    omega
theorem zip_pair {α β : Type} (f : α → W) (g : β → W) (xs : List α) (ys : List β) : ((xs.map f).zip (ys.map g)).map (fun z => W.tup [z.1, z.2]) = (xs.zip ys).map fun z => W.tup [f z.1, g z.2] := by
  rw [List.zip_map, List.map_map]; rfl
theorem range_zip {α β γ : Type} (xs : List α) (ys : List β) (G : Nat → γ) (H : α × β → γ) (hl : xs.length = ys.length) (h : ∀ (k : Nat) (h1 : k < xs.length) (h2 : k < ys.length), G k = H (xs[k], ys[k])) : (List.range xs.length).map G = (xs.zip ys).map H := by
  refine List.ext_getElem (by simp [hl]) fun k h1 h2 => ?_
  have hk : k < xs.length := by simpa using h1
  simp only [List.getElem_map, List.getElem_range, List.getElem_zip]
  exact h k hk (by omega)
/-- the value as a place -/
def Vn (i : Int) (u : Nat → Int) (x : Nat) : Nat := (i + psum u x).toNat
theorem Vn_int {i : Int} {u : Nat → Int} (hi : 0 ≤ i) (hu : ∀ k, 0 ≤ u k) (x : Nat) : ((Vn i u x : Nat) : Int) = i + psum u x := by
  unfold Vn
  have := psum_nn hu x
  omega
theorem Vn_succ {i : Int} {u : Nat → Int} (hi : 0 ≤ i) (hu : ∀ k, 0 ≤ u k) (x : Nat) : Vn i u (x + 1) = Vn i u x + (u x).toNat := by
  have a := Vn_int hi hu (x + 1)
  have b := Vn_int hi hu x
  have e : psum u (x + 1) = psum u x + u x := rfl
  have := hu x
  omega
/-- the steps of a composition -/
def wst (i1 : Int) (u1 : Nat → Int) (i2 : Int) (u2 : Nat → Int) (n : Nat) : Int := psum u2 (Vn i1 u1 (n + 1)) - psum u2 (Vn i1 u1 n)
theorem wst_bd {i1 : Int} {u1 : Nat → Int} {u2 : Nat → Int} {b1 b2 : Int} {i2 : Int} (hi : 0 ≤ i1) (h1 : ∀ k, 0 ≤ u1 k ∧ u1 k ≤ b1) (h2 : ∀ k, 0 ≤ u2 k ∧ u2 k ≤ b2) (n : Nat) : 0 ≤ wst i1 u1 i2 u2 n ∧ wst i1 u1 i2 u2 n ≤ b1 * b2 := by
  unfold wst
  rw [Vn_succ hi fun k => (h1 k).1, psum_add]
  have a := psum_nn (u := fun k => u2 (Vn i1 u1 n + k)) (fun k => (h2 _).1) (u1 n).toNat
  have b := psum_le (u := fun k => u2 (Vn i1 u1 n + k)) (b := b2) (fun k => (h2 _).2) (u1 n).toNat
  have c := h1 n
  have hb2 : 0 ≤ b2 := Int.le_trans (h2 0).1 (h2 0).2
  have d : (((u1 n).toNat : Nat) : Int) * b2 ≤ b1 * b2 := Int.mul_le_mul_of_nonneg_right (by omega) hb2
  omega
theorem wst_sum {i1 : Int} {u1 : Nat → Int} {i2 : Int} {u2 : Nat → Int} (n : Nat) : psum (wst i1 u1 i2 u2) n = psum u2 (Vn i1 u1 n) - psum u2 (Vn i1 u1 0) :=
  psum_dif (w := fun n => psum u2 (Vn i1 u1 n)) n
theorem wst_per1 {i1 i2 : Int} {h1 t1 h2 t2 : List Int} {s m j : Nat} (hi : 0 ≤ i1) (hu : ∀ k, 0 ≤ stp h1 t1 k) (l1 : 0 < t1.length) (l2 : 0 < t2.length) (hs : h1.length ≤ s) (hv : (h2.length : Int) ≤ i1 + psum (stp h1 t1) s) (hm : (m : Int) * t1.sum = ((j * t2.length : Nat) : Int)) : Per (wst i1 (stp h1 t1) i2 (stp h2 t2)) (m * t1.length) s := by
  have key : ∀ n, s ≤ n → psum (stp h2 t2) (Vn i1 (stp h1 t1) (n + m * t1.length)) = psum (stp h2 t2) (Vn i1 (stp h1 t1) n) + j * t2.sum := fun n hn => by
    have a := Vn_int hi hu (n + m * t1.length)
    have b := Vn_int hi hu n
    have c := psum_pers (hd := h1) (tn := t1) l1 (show h1.length ≤ n by omega) m
    have d := psum_mono hu hn
    have e : Vn i1 (stp h1 t1) (n + m * t1.length) = Vn i1 (stp h1 t1) n + j * t2.length := by omega
    rw [e, psum_pers l2 (by omega)]
  intro n hn
  unfold wst
  have e1 : n + m * t1.length + 1 = (n + 1) + m * t1.length := by omega
  rw [e1, key n hn, key (n + 1) (by omega)]
  omega
theorem wst_per2 {i1 i2 : Int} {h1 t1 : List Int} {u2 : Nat → Int} (l1 : 0 < t1.length) (hx : ∀ x ∈ t1, 0 ≤ x) (hs : t1.sum ≤ 0) : Per (wst i1 (stp h1 t1) i2 u2) 1 h1.length := by
  have z : ∀ k, h1.length ≤ k → stp h1 t1 k = 0 := fun k hk => by
    have := Nat.mod_lt (k - h1.length) l1
    unfold stp
    rw [if_neg (by omega), List.getElem?_eq_getElem this]
    exact sum_zero t1 hx hs _ (List.getElem_mem this)
  have e : ∀ k, h1.length ≤ k → Vn i1 (stp h1 t1) (k + 1) = Vn i1 (stp h1 t1) k := fun k hk => by
    have : psum (stp h1 t1) (k + 1) = psum (stp h1 t1) k + stp h1 t1 k := rfl
    unfold Vn
    rw [this, z k hk, Int.add_zero]
  intro n hn
  unfold wst
  rw [e (n + 1) (by omega), e n hn]
theorem gcd_mul (s L : Nat) (hL : 0 < L) : ∃ j : Nat, (L / s.gcd L) * s = j * L ∧ 0 < s.gcd L ∧ s.gcd L ≤ L ∧ 0 < L / s.gcd L := by
  have g0 : 0 < s.gcd L := Nat.gcd_pos_of_pos_right _ hL
  obtain ⟨a, ha⟩ := Nat.gcd_dvd_left s L
  obtain ⟨b, hb⟩ := Nat.gcd_dvd_right s L
  have gl := Nat.le_of_dvd hL (Nat.gcd_dvd_right s L)
  generalize hg : s.gcd L = g at *
  have e : L / g = b := by rw [hb]; exact Nat.mul_div_cancel_left _ g0
  refine ⟨a, ?_, g0, gl, Nat.div_pos gl g0⟩
  rw [e, ha]
  conv => rhs; rw [hb]
  rw [Nat.mul_comm b, Nat.mul_comm a, Nat.mul_assoc, Nat.mul_assoc, Nat.mul_comm a b]
abbrev Cv := Int × List Int × List Int
def cvW (c : Cv) : W := cv c.1 c.2.1 c.2.2
def stC (c : Cv) : Nat → Int := stp c.2.1 c.2.2
def VC (c : Cv) (x : Nat) : Int := c.1 + psum (stC c) x
theorem VC_succ {c : Cv} {x : Nat} : VC c (x + 1) = VC c x + stC c x := by
  show c.1 + (psum (stC c) x + stC c x) = c.1 + psum (stC c) x + stC c x
  omega
/-- equal values at first are equal values -/
theorem VC_eq {c d : Cv} (hc : 0 < c.2.2.length) (hd : 0 < d.2.2.length) (h : ∀ x, x ≤ max c.2.1.length d.2.1.length + Nat.lcm c.2.2.length d.2.2.length → VC c x = VC d x) : ∀ x, VC c x = VC d x := by
  have h0 : 0 < Nat.lcm c.2.2.length d.2.2.length := Nat.lcm_pos hc hd
  have p1 : Per (stC c) (Nat.lcm c.2.2.length d.2.2.length) (max c.2.1.length d.2.1.length) := by
    obtain ⟨m, e⟩ := Nat.dvd_lcm_left c.2.2.length d.2.2.length
    rw [e, Nat.mul_comm]; exact ((per_stp c.2.1 c.2.2).mul m).mono (Nat.le_max_left _ _)
  have p2 : Per (stC d) (Nat.lcm c.2.2.length d.2.2.length) (max c.2.1.length d.2.1.length) := by
    obtain ⟨m, e⟩ := Nat.dvd_lcm_right c.2.2.length d.2.2.length
    rw [e, Nat.mul_comm]; exact ((per_stp d.2.1 d.2.2).mul m).mono (Nat.le_max_right _ _)
  have es : ∀ k, stC c k = stC d k := per_eq h0 p1 p2 fun k hk => by
    have a := h k (by omega)
    have b := h (k + 1) (by omega)
    rw [VC_succ, VC_succ] at b
    omega
  have e0 := h 0 (by omega)
  intro x
  have e1 : VC c 0 = c.1 := by simp [VC, psum]
  have e2 : VC d 0 = d.1 := by simp [VC, psum]
  unfold VC
  rw [psum_congr x fun k _ => es k]
  omega
/-- the first point of a difference -/
def IsFd (c d : Cv) : Option Nat → Prop
  | some x => VC c x ≠ VC d x ∧ ∀ y, y < x → VC c y = VC d y
  | none => ∀ x, VC c x = VC d x
def fdW : Option Nat → W
  | some x => .int x
  | none => .non
theorem IsFd.unique {c d : Cv} {o p : Option Nat} (a : IsFd c d o) (b : IsFd c d p) : o = p := by
  cases o with
  | none => cases p with
    | none => rfl
    | some y => exact absurd (a y) b.1
  | some x => cases p with
    | none => exact absurd (b x) a.1
    | some y =>
      rcases Nat.lt_trichotomy x y with z | z | z
      · exact absurd (b.2 x z) a.1
      · rw [z]
      · exact absurd (a.2 y z) b.1
theorem IsFd.symm {c d : Cv} {o : Option Nat} (a : IsFd c d o) : IsFd d c o := by
  cases o with
  | none => exact fun x => (a x).symm
  | some x => exact ⟨fun z => a.1 z.symm, fun y hy => (a.2 y hy).symm⟩
theorem fd_ex (c d : Cv) (n : Nat) (hn : (∀ x, x < n → VC c x = VC d x) → ∀ x, VC c x = VC d x) : ∃ o, IsFd c d o ∧ ∀ x, o = some x → x < n := by
  have : ∀ m, m ≤ n → (∃ x, x < m ∧ VC c x ≠ VC d x ∧ ∀ y, y < x → VC c y = VC d y) ∨ ∀ x, x < m → VC c x = VC d x := fun m => by
    induction m with
    | zero => exact fun _ => .inr fun x hx => by omega
    | succ m ih =>
      intro hm
      rcases ih (by omega) with ⟨x, a, b, e⟩ | e
      · exact .inl ⟨x, by omega, b, e⟩
      · by_cases z : VC c m = VC d m
        · refine .inr fun x hx => ?_
          rcases Nat.lt_or_ge x m with q | q
          · exact e x q
          · have : x = m := by omega
            rw [this]; exact z
        · exact .inl ⟨m, by omega, z, e⟩
  rcases this n (Nat.le_refl _) with ⟨x, a, b, e⟩ | e
  · exact ⟨some x, ⟨b, e⟩, fun y hy => by cases hy; exact a⟩
  · exact ⟨none, hn e, fun y hy => by cases hy⟩
theorem eqW_cv {h : Hw} {i j : Int} {a b c d : List Int} : eqW (cv i a b) (cv j c d) h = some (decide (i = j ∧ a = c ∧ b = d)) := by
  have e : ∀ a : List Int, W.toD h (.tup (a.map W.int)) = some (.tuple (a.map PyData.int)) := fun a => by
    rw [W.toD, toDs_ints]; rfl
  have t : ∀ (i : Int) (a b : List Int), W.toD1 h (cv i a b) = some (.tuple [.int i, .tuple (a.map PyData.int), .tuple (b.map PyData.int)]) := fun i a b => by
    show W.toD h _ = _
    unfold cv
    rw [W.toD, W.toDs, W.toD, W.toDs, e, W.toDs, e, W.toDs]
    rfl
  unfold eqW
  rw [t, t]
  have d1 := depth_ints a
  have d2 := depth_ints b
  have d3 := depth_ints c
  have d4 := depth_ints d
  have hd : (PyData.tuple [.int i, .tuple (a.map PyData.int), .tuple (b.map PyData.int)]).depth ≤ 64 ∧ (PyData.tuple [.int j, .tuple (c.map PyData.int), .tuple (d.map PyData.int)]).depth ≤ 64 := by
    simp only [PyData.depth, PyData.depthAll]; omega
  refine (if_pos hd).trans ?_
  simp only [PyData.eqv, PyData.eqvAll, eqvAll_ints, Bool.and_true, Bool.decide_and]
  rfl
theorem cut_mid {xs : List W} {a b : Int} (ha : 0 ≤ a) (hb : 0 ≤ b) : cut xs (some a) (some b) = (xs.take b.toNat).drop a.toNat := by
  have e1 : sIx xs.length 0 (some a) = min a.toNat xs.length := if_neg (by omega)
  have e2 : sIx xs.length xs.length (some b) = min b.toNat xs.length := if_neg (by omega)
  unfold cut
  rw [e1, e2, List.drop_take]
  by_cases c : a.toNat ≤ xs.length
  · rw [Nat.min_eq_left c]
    by_cases d : b.toNat ≤ xs.length
    · rw [Nat.min_eq_left d]
    · rw [Nat.min_eq_right (by omega), List.take_of_length_le (by simp), List.take_of_length_le (by simp; omega)]
  · have d1 : xs.drop (min a.toNat xs.length) = [] := List.drop_eq_nil_of_le (by omega)
    have d2 : xs.drop a.toNat = [] := List.drop_eq_nil_of_le (by omega)
    rw [d1, d2]; simp
/-- a curve as it is drawn, all to b -/
structure OkB (b : Int) (c : Cv) : Prop where
  i : 0 ≤ c.1 ∧ c.1 ≤ b
  l : c.2.1.length ≤ 4 ∧ 0 < c.2.2.length ∧ c.2.2.length ≤ 4
  x : (∀ x ∈ c.2.1, 0 ≤ x ∧ x ≤ b) ∧ ∀ x ∈ c.2.2, 0 ≤ x ∧ x ≤ b
theorem OkB.u {b : Int} {c : Cv} (o : OkB b c) : ∀ k, 0 ≤ stC c k ∧ stC c k ≤ b := stp_all (P := fun x => 0 ≤ x ∧ x ≤ b) o.l.2.1 o.x.1 o.x.2
theorem OkB.s {b : Int} {c : Cv} (o : OkB b c) (hb : b ≤ 1000) : 0 ≤ c.2.2.sum ∧ c.2.2.sum ≤ 4000 := by
  have := sum_bd b c.2.2 o.x.2
  have l := o.l
  have : (c.2.2.length : Int) * b ≤ 4 * 1000 := Int.mul_le_mul (by omega) hb (by have := o.i; omega) (by decide)
  omega
theorem common_lcm {a b k : Nat} (ha : 0 < a) (hb : 0 < b) (hk : 0 < k) (h : b ∣ a * k) (low : ∀ j, 0 < j → j < k → ¬ b ∣ a * j) : a * k = Nat.lcm a b := by
  obtain ⟨k0, e⟩ := Nat.dvd_lcm_left a b
  have d := Nat.dvd_lcm_right a b
  have l0 := Nat.lcm_pos ha hb
  rw [e] at d l0
  have p0 : 0 < k0 := Nat.pos_of_mul_pos_left l0
  have le : k ≤ k0 := Nat.le_of_not_lt fun z => low k0 p0 z d
  have l1 : Nat.lcm a b ≤ a * k := Nat.le_of_dvd (Nat.mul_pos ha hk) (Nat.lcm_dvd (Nat.dvd_mul_right a k) h)
  have l2 : a * k ≤ a * k0 := Nat.mul_le_mul_left a le
  omega
/-- the rise in whole periods -/
def riseC (c : Cv) (n : Nat) : Int := c.2.2.sum * ((n / c.2.2.length : Nat) : Int)
def FasterC (c d : Cv) : Prop := d.2.2.sum * (c.2.2.length : Int) < c.2.2.sum * (d.2.2.length : Int)
def perC (c d : Cv) : Nat := Nat.lcm c.2.2.length d.2.2.length
def ahC (c d : Cv) : Nat := max c.2.1.length d.2.1.length
theorem faster_iff {c d : Cv} (hc : 0 < c.2.2.length) (hd : 0 < d.2.2.length) : riseC d (perC c d) < riseC c (perC c d) ↔ FasterC c d := by
  unfold riseC FasterC perC
  obtain ⟨p, ep⟩ := Nat.dvd_lcm_left c.2.2.length d.2.2.length
  obtain ⟨q, eq⟩ := Nat.dvd_lcm_right c.2.2.length d.2.2.length
  have l0 := Nat.lcm_pos hc hd
  have dp : Nat.lcm c.2.2.length d.2.2.length / c.2.2.length = p := by rw [ep]; exact Nat.mul_div_cancel_left _ hc
  have dq : Nat.lcm c.2.2.length d.2.2.length / d.2.2.length = q := by rw [eq]; exact Nat.mul_div_cancel_left _ hd
  rw [dp, dq]
  have e : c.2.2.length * p = d.2.2.length * q := by omega
  have hp : 0 < p := by
    rcases Nat.eq_zero_or_pos p with z | z
    · rw [z, Nat.mul_zero] at ep; omega
    · exact z
  have hq : 0 < q := by
    rcases Nat.eq_zero_or_pos q with z | z
    · rw [z, Nat.mul_zero] at eq; omega
    · exact z
  generalize c.2.2.length = a at *
  generalize d.2.2.length = b at *
  generalize c.2.2.sum = s at *
  generalize d.2.2.sum = t at *
  have ei : (a : Int) * p = (b : Int) * q := by rw [← Int.natCast_mul, ← Int.natCast_mul, e]
  have k1 : (t * q) * a < (s * p) * a ↔ t * q < s * p := ⟨fun h => Int.lt_of_mul_lt_mul_right h (by omega), fun h => Int.mul_lt_mul_of_pos_right h (by omega)⟩
  have k2 : (t * a) * q < (s * b) * q ↔ t * a < s * b := ⟨fun h => Int.lt_of_mul_lt_mul_right h (by omega), fun h => Int.mul_lt_mul_of_pos_right h (by omega)⟩
  have r1 : (t * q) * a = (t * a) * q := by rw [Int.mul_assoc, Int.mul_comm (q : Int) a, ← Int.mul_assoc]
  have r2 : (s * p) * a = (s * b) * q := by rw [Int.mul_assoc, Int.mul_comm (p : Int) a, ei, ← Int.mul_assoc]
  rw [← k1, ← k2, r1, r2]
/-- by how much the first one is above the second one -/
def DC (c d : Cv) (x : Nat) : Int := VC c x - VC d x
theorem VC_per {c : Cv} (hc : 0 < c.2.2.length) {x n : Nat} (hx : c.2.1.length ≤ x) (hn : c.2.2.length ∣ n) : VC c (x + n) = VC c x + riseC c n := by
  obtain ⟨m, rfl⟩ := hn
  have := psum_pers (hd := c.2.1) (tn := c.2.2) hc hx m
  unfold VC riseC stC
  rw [Nat.mul_comm, this, Nat.mul_div_cancel _ hc, Int.mul_comm c.2.2.sum]
  omega
theorem DC_per {c d : Cv} (hc : 0 < c.2.2.length) (hd : 0 < d.2.2.length) {x : Nat} (hx : ahC c d ≤ x) : DC c d (x + perC c d) = DC c d x + (riseC c (perC c d) - riseC d (perC c d)) := by
  unfold ahC at hx
  unfold DC
  have q1 := VC_per (x := x) hc (by omega) (Nat.dvd_lcm_left c.2.2.length d.2.2.length)
  have q2 := VC_per (x := x) hd (by omega) (Nat.dvd_lcm_right c.2.2.length d.2.2.length)
  unfold perC
  rw [q1, q2]
  omega
theorem DC_pers {c d : Cv} (hc : 0 < c.2.2.length) (hd : 0 < d.2.2.length) {x : Nat} (hx : ahC c d ≤ x) : ∀ j : Nat, DC c d (x + j * perC c d) = DC c d x + j * (riseC c (perC c d) - riseC d (perC c d))
  | 0 => by simp
  | j + 1 => by
    have e : x + (j + 1) * perC c d = (x + j * perC c d) + perC c d := by rw [Nat.add_mul]; omega
    rw [e, DC_per hc hd (by omega), DC_pers hc hd hx j, Int.natCast_add, Int.add_mul]
    simp; omega
/-- every later place stands in the first period -/
theorem in_per {a L x : Nat} (hL : 0 < L) (hx : a ≤ x) : ∃ y j : Nat, a ≤ y ∧ y < a + L ∧ x = y + j * L := by
  refine ⟨a + (x - a) % L, (x - a) / L, by omega, by have := Nat.mod_lt (x - a) hL; omega, ?_⟩
  have := Nat.div_add_mod (x - a) L
  rw [Nat.mul_comm] at this
  omega
theorem zmaxL_mem : ∀ (a : Int) (l : List Int), maxL (a :: l) ∈ a :: l := fun a l => by
  show l.foldl (fun m y => if y > m then y else m) a ∈ a :: l
  induction l generalizing a with
  | nil => simp
  | cons b l ih =>
    rw [List.foldl_cons]
    by_cases c : b > a
    · rw [if_pos c]; exact List.mem_cons_of_mem _ (ih b)
    · rw [if_neg c]
      rcases List.mem_cons.mp (ih a) with z | z
      · rw [z]; simp
      · exact List.mem_cons_of_mem _ (List.mem_cons_of_mem _ z)
theorem zmaxL_ge : ∀ (a : Int) (l : List Int), ∀ x ∈ a :: l, x ≤ maxL (a :: l) := fun a l => by
  show ∀ x ∈ a :: l, x ≤ l.foldl (fun m y => if y > m then y else m) a
  induction l generalizing a with
  | nil => intro x hx; simp at hx; simp [hx]
  | cons b l ih =>
    intro x hx
    rw [List.foldl_cons]
    by_cases c : b > a
    · rw [if_pos c]
      rcases List.mem_cons.mp hx with z | z
      · have := ih b b (by simp); omega
      · exact ih b x z
    · rw [if_neg c]
      rcases List.mem_cons.mp hx with z | z
      · exact ih a x (by rw [z]; simp)
      · rcases List.mem_cons.mp z with q | q
        · have := ih a a (by simp); omega
        · exact ih a x (by simp [q])
theorem zminL_mem : ∀ (a : Int) (l : List Int), minL (a :: l) ∈ a :: l := fun a l => by
  show l.foldl (fun m y => if y < m then y else m) a ∈ a :: l
  induction l generalizing a with
  | nil => simp
  | cons b l ih =>
    rw [List.foldl_cons]
    by_cases c : b < a
    · rw [if_pos c]; exact List.mem_cons_of_mem _ (ih b)
    · rw [if_neg c]
      rcases List.mem_cons.mp (ih a) with z | z
      · rw [z]; simp
      · exact List.mem_cons_of_mem _ (List.mem_cons_of_mem _ z)
theorem zminL_le : ∀ (a : Int) (l : List Int), ∀ x ∈ a :: l, minL (a :: l) ≤ x := fun a l => by
  show ∀ x ∈ a :: l, l.foldl (fun m y => if y < m then y else m) a ≤ x
  induction l generalizing a with
  | nil => intro x hx; simp at hx; simp [hx]
  | cons b l ih =>
    intro x hx
    rw [List.foldl_cons]
    by_cases c : b < a
    · rw [if_pos c]
      rcases List.mem_cons.mp hx with z | z
      · have := ih b b (by simp); omega
      · exact ih b x z
    · rw [if_neg c]
      rcases List.mem_cons.mp hx with z | z
      · exact ih a x (by rw [z]; simp)
      · rcases List.mem_cons.mp z with q | q
        · have := ih a a (by simp); omega
        · exact ih a x (by simp [q])
theorem minL_in {l : List Int} (h : l ≠ []) : minL l ∈ l ∧ ∀ x ∈ l, minL l ≤ x := by
  cases l with
  | nil => exact absurd rfl h
  | cons a l => exact ⟨zminL_mem a l, zminL_le a l⟩
theorem maxL_in {l : List Int} (h : l ≠ []) : maxL l ∈ l ∧ ∀ x ∈ l, x ≤ maxL l := by
  cases l with
  | nil => exact absurd rfl h
  | cons a l => exact ⟨zmaxL_mem a l, zmaxL_ge a l⟩
def gainC (c d : Cv) : Int := riseC c (perC c d) - riseC d (perC c d)
/-- the greatest difference in the first period, at least 0 -/
def devC (c d : Cv) : Int := maxL (0 :: (List.range (ahC c d + perC c d)).map fun x => DC c d x)
theorem perC_pos {c d : Cv} (hc : 0 < c.2.2.length) (hd : 0 < d.2.2.length) : 0 < perC c d := Nat.lcm_pos hc hd
/-- if the first one is not faster, what holds at first holds always -/
theorem DC_all {c d : Cv} (hc : 0 < c.2.2.length) (hd : 0 < d.2.2.length) (hg : gainC c d ≤ 0) {m : Int} (h : ∀ x, x < ahC c d + perC c d → DC c d x ≤ m) (x : Nat) : DC c d x ≤ m := by
  rcases Nat.lt_or_ge x (ahC c d) with q | q
  · exact h x (by omega)
  · obtain ⟨y, j, h1, h2, rfl⟩ := in_per (perC_pos hc hd) q
    rw [DC_pers hc hd h1]
    have := h y h2
    have e : (j : Int) * (riseC c (perC c d) - riseC d (perC c d)) ≤ 0 := Int.mul_nonpos_of_nonneg_of_nonpos (by omega) hg
    omega
/-- the first point above by more than m -/
def IsPs (c d : Cv) (m : Int) : Option Nat → Prop
  | some x => m < DC c d x ∧ ∀ y, y < x → DC c d y ≤ m
  | none => ∀ x, DC c d x ≤ m
theorem IsPs.unique {c d : Cv} {m : Int} {o p : Option Nat} (a : IsPs c d m o) (b : IsPs c d m p) : o = p := by
  cases o with
  | none => cases p with
    | none => rfl
    | some y => have := a y; have := b.1; omega
  | some x => cases p with
    | none => have := b x; have := a.1; omega
    | some y =>
      rcases Nat.lt_trichotomy x y with z | z | z
      · have := b.2 x z; have := a.1; omega
      · rw [z]
      · have := a.2 y z; have := b.1; omega
theorem ps_ex (c d : Cv) (m : Int) : ∃ o, IsPs c d m o := by
  by_cases h : ∃ x, m < DC c d x
  · have key : ∀ n, (∃ x, x < n ∧ m < DC c d x) → ∃ x, m < DC c d x ∧ ∀ y, y < x → DC c d y ≤ m := by
      intro n
      induction n with
      | zero => rintro ⟨x, hx, _⟩; omega
      | succ n ih =>
        intro hx
        by_cases z : ∃ x, x < n ∧ m < DC c d x
        · exact ih z
        · obtain ⟨x, h1, h2⟩ := hx
          have : x = n := by
            refine Nat.le_antisymm (by omega) (Nat.le_of_not_lt fun q => z ⟨x, q, h2⟩)
          subst this
          exact ⟨x, h2, fun y hy => Int.not_lt.mp fun q => z ⟨y, hy, q⟩⟩
    obtain ⟨x, hx⟩ := h
    obtain ⟨y, hy⟩ := key (x + 1) ⟨x, by omega, hx⟩
    exact ⟨some y, hy⟩
  · exact ⟨none, fun x => Int.not_lt.mp fun q => h ⟨x, q⟩⟩
/-- where it first passes, if nothing passes in the beginning -/
def passAt (c d : Cv) (m : Int) (x : Nat) : Int := x + ((m - VC c x + VC d x) / gainC c d + 1) * perC c d
theorem pass_min {c d : Cv} {m : Int} (hc : 0 < c.2.2.length) (hd : 0 < d.2.2.length) (hg : 0 < gainC c d) (h : ∀ x, x < ahC c d + perC c d → DC c d x ≤ m) :
    ∃ n : Nat, minL ((List.range (perC c d)).map fun t => passAt c d m (ahC c d + t)) = n ∧ IsPs c d m (some n) := by
  have hL := perC_pos hc hd
  have hne : (List.range (perC c d)).map (fun t => passAt c d m (ahC c d + t)) ≠ [] := by
    intro z
    have := congrArg List.length z
    simp at this
    omega
  obtain ⟨hm, hle⟩ := minL_in hne
  have form : ∀ t, t < perC c d → ∃ q : Nat, passAt c d m (ahC c d + t) = ((ahC c d + t + (q + 1) * perC c d : Nat) : Int) ∧ (q : Int) * gainC c d ≤ m - DC c d (ahC c d + t) ∧ m - DC c d (ahC c d + t) < (q : Int) * gainC c d + gainC c d := fun t ht => by
    have e : m - VC c (ahC c d + t) + VC d (ahC c d + t) = m - DC c d (ahC c d + t) := by unfold DC; omega
    obtain ⟨q, e1, e2, e3⟩ := quo_bd hg (show 0 ≤ m - DC c d (ahC c d + t) by have := h (ahC c d + t) (by omega); omega)
    refine ⟨q, ?_, e2, e3⟩
    unfold passAt
    rw [e, e1]
    simp only [Int.natCast_add, Int.natCast_mul]
    rfl
  obtain ⟨t, ht, et⟩ := List.mem_map.mp hm
  rw [List.mem_range] at ht
  obtain ⟨q, e1, e2, e3⟩ := form t ht
  refine ⟨ahC c d + t + (q + 1) * perC c d, by rw [← et]; exact e1, ?_, fun y hy => ?_⟩
  · rw [DC_pers hc hd (by omega)]
    have : ((q + 1 : Nat) : Int) * (riseC c (perC c d) - riseC d (perC c d)) = (q : Int) * gainC c d + gainC c d := by
      rw [Int.natCast_add, Int.add_mul]; unfold gainC; simp
    omega
  · rcases Nat.lt_or_ge y (ahC c d) with z | z
    · exact h y (by omega)
    · obtain ⟨w, j, w1, w2, rfl⟩ := in_per hL z
      obtain ⟨s, rfl⟩ : ∃ s, w = ahC c d + s := ⟨w - ahC c d, by omega⟩
      obtain ⟨r, f1, f2, f3⟩ := form s (by omega)
      have l := hle _ (List.mem_map.mpr ⟨s, List.mem_range.mpr (by omega), rfl⟩)
      rw [← et, e1, f1] at l
      have hj : j ≤ r := by
        refine Nat.le_of_not_lt fun z => ?_
        have : (r + 1) * perC c d ≤ j * perC c d := Nat.mul_le_mul_right _ z
        omega
      rw [DC_pers hc hd w1]
      have : (j : Int) * gainC c d ≤ (r : Int) * gainC c d := Int.mul_le_mul_of_nonneg_right (by omega) (by omega)
      unfold gainC at *
      omega
theorem tr_ref {h : Hw} {n : Nat} {xs : List W} (e : lstAt h n = some xs) : truth (.ref n) h = some (!xs.isEmpty) := by
  show (match h[n]? with | some (.lst xs) => some (!xs.isEmpty) | _ => none) = _
  rw [lstAt_get e]
theorem eqW_str {h : Hw} {x : Str} (hx : PyData.strOk x = true) : eqW (.str x) (.str x) h = some true := by
  have t : W.toD1 h (.str x) = some (.str x) := by
    show W.toD h _ = _
    rw [W.toD, if_pos hx]
  unfold eqW
  rw [t]
  refine (if_pos (by simp [PyData.depth])).trans ?_
  simp [PyData.eqv]
theorem gain_swap {c d : Cv} : gainC d c = -gainC c d := by
  have : perC d c = perC c d := Nat.lcm_comm _ _
  unfold gainC
  rw [this]; omega
/-- the greatest difference in the period -/
def exC (c d : Cv) : Int := maxL ((List.range (perC c d)).map fun t => DC c d (ahC c d + t))
theorem ex_in {c d : Cv} (h : 0 < perC c d) : (∃ t, t < perC c d ∧ exC c d = DC c d (ahC c d + t)) ∧ ∀ t, t < perC c d → DC c d (ahC c d + t) ≤ exC c d := by
  have hne : (List.range (perC c d)).map (fun t => DC c d (ahC c d + t)) ≠ [] := by
    intro z
    have := congrArg List.length z
    simp at this
    omega
  obtain ⟨hm, hle⟩ := maxL_in hne
  obtain ⟨t, ht, et⟩ := List.mem_map.mp hm
  exact ⟨⟨t, List.mem_range.mp ht, et.symm⟩, fun t ht => hle _ (List.mem_map.mpr ⟨t, List.mem_range.mpr ht, rfl⟩)⟩
/-- behind enough periods nothing is above -/
theorem settle {c d : Cv} (hc : 0 < c.2.2.length) (hd : 0 < d.2.2.length) (hg : gainC c d < 0) {q : Nat} (hq : max (exC c d) 0 ≤ q * -gainC c d) {x : Nat} (hx : ahC c d + q * perC c d ≤ x) : DC c d x ≤ 0 := by
  have hL := perC_pos hc hd
  obtain ⟨y, j, h1, h2, rfl⟩ := in_per hL (show ahC c d ≤ x by omega)
  obtain ⟨s, rfl⟩ : ∃ s, y = ahC c d + s := ⟨y - ahC c d, by omega⟩
  have hj : q ≤ j := by
    refine Nat.le_of_not_lt fun z => ?_
    have : (j + 1) * perC c d ≤ q * perC c d := Nat.mul_le_mul_right _ z
    rw [Nat.add_mul] at this
    omega
  have e := (ex_in (c := c) (d := d) hL).2 s (by omega)
  rw [DC_pers hc hd h1]
  have m : (q : Int) * -gainC c d ≤ (j : Int) * -gainC c d := Int.mul_le_mul_of_nonneg_right (by omega) (by omega)
  have r : (j : Int) * (riseC c (perC c d) - riseC d (perC c d)) = -((j : Int) * -gainC c d) := by
    show (j : Int) * gainC c d = _
    rw [Int.mul_neg]; omega
  omega
/-- the last point above, of the first n -/
def UpTo (c d : Cv) (n : Nat) : Option Nat → Prop
  | some x => x < n ∧ 0 < DC c d x ∧ ∀ y, x < y → y < n → DC c d y ≤ 0
  | none => ∀ y, y < n → DC c d y ≤ 0
def IsLst (c d : Cv) : Option Nat → Prop
  | some x => 0 < DC c d x ∧ ∀ y, x < y → DC c d y ≤ 0
  | none => ∀ y, DC c d y ≤ 0
theorem UpTo.last {c d : Cv} {n : Nat} {o : Option Nat} (u : UpTo c d n o) (h : ∀ y, n ≤ y → DC c d y ≤ 0) : IsLst c d o := by
  cases o with
  | none => exact fun y => (Nat.lt_or_ge y n).elim (u y) (h y)
  | some x => exact ⟨u.2.1, fun y hy => (Nat.lt_or_ge y n).elim (u.2.2 y hy) (h y)⟩
theorem IsLst.unique {c d : Cv} {o p : Option Nat} (a : IsLst c d o) (b : IsLst c d p) : o = p := by
  cases o with
  | none => cases p with
    | none => rfl
    | some y => have := a y; have := b.1; omega
  | some x => cases p with
    | none => have := b x; have := a.1; omega
    | some y =>
      rcases Nat.lt_trichotomy x y with z | z | z
      · have := a.2 y z; have := b.1; omega
      · rw [z]
      · have := b.2 x z; have := a.1; omega
theorem UpTo.step {c d : Cv} {n : Nat} {o : Option Nat} (u : UpTo c d n o) : UpTo c d (n + 1) (if 0 < DC c d n then some n else o) := by
  by_cases z : 0 < DC c d n
  · rw [if_pos z]; exact ⟨by omega, z, fun y h1 h2 => by omega⟩
  · rw [if_neg z]
    cases o with
    | none =>
      refine fun y hy => ?_
      rcases Nat.lt_or_ge y n with q | q
      · exact u y q
      · have : y = n := by omega
        rw [this]; omega
    | some x =>
      refine ⟨by have := u.1; omega, u.2.1, fun y h1 h2 => ?_⟩
      rcases Nat.lt_or_ge y n with q | q
      · exact u.2.2 y h1 q
      · have : y = n := by omega
        rw [this]; omega
theorem upto_ex (c d : Cv) : ∀ n, ∃ o, UpTo c d n o
  | 0 => ⟨none, fun y hy => by omega⟩
  | n + 1 => by
    obtain ⟨o, u⟩ := upto_ex c d n
    exact ⟨_, u.step⟩
/-- above again and again -/
def Alw (c d : Cv) : Prop := 0 < gainC c d ∨ (gainC c d = 0 ∧ ∃ x, ahC c d ≤ x ∧ x < ahC c d + perC c d ∧ 0 < DC c d x)
/-- not always: from some place on nothing is above -/
theorem not_alw {c d : Cv} (hc : 0 < c.2.2.length) (hd : 0 < d.2.2.length) (h : ¬ Alw c d) (hz : gainC c d = 0) (y : Nat) (hy : ahC c d ≤ y) : DC c d y ≤ 0 := by
  obtain ⟨w, j, h1, h2, rfl⟩ := in_per (perC_pos hc hd) hy
  rw [DC_pers hc hd h1]
  have e : riseC c (perC c d) - riseC d (perC c d) = 0 := hz
  rw [e, Int.mul_zero, Int.add_zero]
  exact Int.not_lt.mp fun q => h (.inr ⟨hz, w, h1, h2, q⟩)
def lstW : Option Nat → W
  | some x => .int x
  | none => .str "never"
/-- what both tell -/
def Told (c d : Cv) (w : W) : Prop := (Alw c d ∧ w = .str "always") ∨ (¬ Alw c d ∧ ∃ o, IsLst c d o ∧ w = lstW o)
theorem Told.alw {c d : Cv} {w : W} (t : Told c d w) (a : Alw c d) : w = .str "always" := by
  rcases t with ⟨_, e⟩ | ⟨n, _⟩
  · exact e
  · exact absurd a n
theorem Told.lst {c d : Cv} {w : W} (t : Told c d w) (a : ¬ Alw c d) {o : Option Nat} (l : IsLst c d o) : w = lstW o := by
  rcases t with ⟨b, _⟩ | ⟨_, p, q, e⟩
  · exact absurd b a
  · rw [e, l.unique q]
theorem told_ex {c d : Cv} (hc : 0 < c.2.2.length) (hd : 0 < d.2.2.length) : ∃ w, Told c d w := by
  by_cases a : Alw c d
  · exact ⟨_, .inl ⟨a, rfl⟩⟩
  · have hg : ¬ 0 < gainC c d := fun z => a (.inl z)
    by_cases z : gainC c d = 0
    · obtain ⟨o, u⟩ := upto_ex c d (ahC c d)
      exact ⟨_, .inr ⟨a, o, u.last fun y hy => not_alw hc hd a z y hy, rfl⟩⟩
    · obtain ⟨o, u⟩ := upto_ex c d (ahC c d + (max (exC c d) 0).toNat * perC c d)
      refine ⟨_, .inr ⟨a, o, u.last fun y hy => settle hc hd (by omega) ?_ hy, rfl⟩⟩
      have m : ((max (exC c d) 0).toNat : Int) * 1 ≤ ((max (exC c d) 0).toNat : Int) * -gainC c d := Int.mul_le_mul_of_nonneg_left (by omega) (by omega)
      omega
end Ev

set_option Elab.async false
set_option maxRecDepth 100000
set_option maxHeartbeats 4000000
set_option linter.all false
namespace Ev
open PySem
/-! curves by their values -/
theorem IsNf.dvd {u : Nat → Int} {hd tn : List Int} {L n : Nat} (N : IsNf u hd tn) (p : Per u L n) : tn.length ∣ L := by
  have pa : Per u tn.length hd.length := fun k hk => by rw [← N.eq, ← N.eq]; exact per_stp hd tn k hk
  have pg := Per.gcd tn.length L (pa.mono (Nat.le_max_left hd.length n)) (p.mono (Nat.le_max_right hd.length n))
  have g0 : 0 < tn.length.gcd L := Nat.gcd_pos_of_pos_left _ N.pos
  have a := N.min _ _ g0 pg
  have b := Nat.le_of_dvd N.pos (Nat.gcd_dvd_left tn.length L)
  have e : tn.length = tn.length.gcd L := by omega
  rw [e]
  exact Nat.gcd_dvd_right _ _
theorem stp_mem {hd tn : List Int} {P : Int → Prop} (h : ∀ k, P (stp hd tn k)) : (∀ x ∈ hd, P x) ∧ ∀ x ∈ tn, P x := by
  constructor
  · intro x hx
    obtain ⟨i, hi, rfl⟩ := List.mem_iff_getElem.mp hx
    rw [← stp_hd (tn := tn) hi]; exact h _
  · intro x hx
    obtain ⟨i, hi, rfl⟩ := List.mem_iff_getElem.mp hx
    rw [← stp_tn (hd := hd) hi]; exact h _
/-- a curve with the values w: at most H increments ahead of a period whose length divides P, all to b -/
structure Cu (H P : Nat) (b : Int) (w : Nat → Int) (c : Cv) : Prop where
  i : c.1 = w 0
  l : c.2.1.length ≤ H ∧ 0 < c.2.2.length ∧ c.2.2.length ∣ P
  u : ∀ n, stC c n = w (n + 1) - w n
  b : 0 ≤ w 0 ∧ w 0 ≤ b ∧ ∀ n, 0 ≤ w (n + 1) - w n ∧ w (n + 1) - w n ≤ b
/-- the curve in normal form with the values w -/
structure Nfc (w : Nat → Int) (c : Cv) : Prop where
  i : c.1 = w 0
  n : IsNf (fun n => w (n + 1) - w n) c.2.1 c.2.2
theorem Nfc.uniq {w v : Nat → Int} {c d : Cv} (a : Nfc w c) (b : Nfc v d) (e : ∀ n, w n = v n) : c = d := by
  have : w = v := funext e
  subst this
  obtain ⟨h1, h2⟩ := a.n.unique b.n
  exact Prod.ext (a.i.trans b.i.symm) (Prod.ext h1 h2)
theorem Nfc.congr {w v : Nat → Int} {c : Cv} (a : Nfc w c) (e : ∀ n, w n = v n) : Nfc v c := by
  have : w = v := funext e
  subst this; exact a
theorem Cu.congr {H P : Nat} {b : Int} {w v : Nat → Int} {c : Cv} (a : Cu H P b w c) (e : ∀ n, w n = v n) : Cu H P b v c := by
  have : w = v := funext e
  subst this; exact a
theorem Cu.mono {H P H' P' : Nat} {b b' : Int} {w : Nat → Int} {c : Cv} (a : Cu H P b w c) (h1 : H ≤ H') (h2 : P ∣ P') (h3 : b ≤ b') : Cu H' P' b' w c :=
  ⟨a.i, ⟨Nat.le_trans a.l.1 h1, a.l.2.1, Nat.dvd_trans a.l.2.2 h2⟩, a.u, a.b.1, Int.le_trans a.b.2.1 h3, fun n => ⟨(a.b.2.2 n).1, Int.le_trans (a.b.2.2 n).2 h3⟩⟩
theorem Cu.v {H P : Nat} {b : Int} {w : Nat → Int} {c : Cv} (a : Cu H P b w c) (n : Nat) : VC c n = w n := by
  have : stC c = fun n => w (n + 1) - w n := funext a.u
  unfold VC
  rw [this, psum_dif, a.i]; omega
theorem Cu.x {H P : Nat} {b : Int} {w : Nat → Int} {c : Cv} (a : Cu H P b w c) : (∀ x ∈ c.2.1, 0 ≤ x ∧ x ≤ b) ∧ ∀ x ∈ c.2.2, 0 ≤ x ∧ x ≤ b :=
  stp_mem (P := fun x => 0 ≤ x ∧ x ≤ b) fun k => by
    have := a.u k
    unfold stC at this
    rw [this]; exact a.b.2.2 k
theorem Cu.nn {H P : Nat} {b : Int} {w : Nat → Int} {c : Cv} (a : Cu H P b w c) : 0 ≤ b := by have := a.b; omega
theorem Cu.lp {H P : Nat} {b : Int} {w : Nat → Int} {c : Cv} (a : Cu H P b w c) (hP : 0 < P) : c.2.2.length ≤ P := Nat.le_of_dvd hP a.l.2.2
theorem Cu.s {H P : Nat} {b : Int} {w : Nat → Int} {c : Cv} (a : Cu H P b w c) (hP : 0 < P) : 0 ≤ c.2.2.sum ∧ c.2.2.sum ≤ P * b := by
  have s := sum_bd b c.2.2 a.x.2
  have := a.lp hP
  have m : (c.2.2.length : Int) * b ≤ (P : Int) * b := Int.mul_le_mul_of_nonneg_right (by omega) a.nn
  omega
theorem Cu.le {H P : Nat} {b : Int} {w : Nat → Int} {c : Cv} (a : Cu H P b w c) (n : Nat) : 0 ≤ w n ∧ w n ≤ b + n * b := by
  induction n with
  | zero => have := a.b; simp; omega
  | succ n ih =>
    have := a.b.2.2 n
    rw [Int.natCast_add, Int.add_mul]
    simp; omega
theorem Cu.mo {H P : Nat} {b : Int} {w : Nat → Int} {c : Cv} (a : Cu H P b w c) (n : Nat) : ∀ m, w n ≤ w (n + m)
  | 0 => by simp
  | m + 1 => by
    have := a.b.2.2 (n + m)
    have := a.mo n m
    show w n ≤ w (n + m + 1)
    omega
theorem Cu.mono' {H P : Nat} {b : Int} {w : Nat → Int} {c : Cv} (a : Cu H P b w c) {n m : Nat} (h : n ≤ m) : w n ≤ w m := by
  obtain ⟨k, rfl⟩ := Nat.le.dest h
  exact a.mo n k
theorem OkB.cu {b : Int} {c : Cv} {P : Nat} (o : OkB b c) (h : c.2.2.length ∣ P) : Cu 4 P b (VC c) c :=
  ⟨by unfold VC psum; omega, ⟨o.l.1, o.l.2.1, h⟩, fun n => by rw [VC_succ]; omega, by have := o.i; unfold VC psum; omega, by have := o.i; unfold VC psum; omega, fun n => by rw [VC_succ]; have := o.u n; omega⟩
/-- what is in normal form is a curve -/
theorem Nfc.cu {H L n : Nat} {b : Int} {w : Nat → Int} {c : Cv} (N : Nfc w c) (p : Per (fun n => w (n + 1) - w n) L n) (h : c.2.1.length ≤ H) (hb : 0 ≤ w 0 ∧ w 0 ≤ b ∧ ∀ n, 0 ≤ w (n + 1) - w n ∧ w (n + 1) - w n ≤ b) : Cu H L b w c :=
  ⟨N.i, ⟨h, N.n.pos, N.n.dvd p⟩, N.n.eq, hb⟩
theorem Cu.per {H P : Nat} {b : Int} {w : Nat → Int} {c : Cv} (a : Cu H P b w c) : Per (fun n => w (n + 1) - w n) P c.2.1.length := by
  have : stC c = fun n => w (n + 1) - w n := funext a.u
  rw [← this]
  obtain ⟨m, e⟩ := a.l.2.2
  have := (per_stp c.2.1 c.2.2).mul m
  rw [Nat.mul_comm, ← e] at this
  exact this
/-- the composition -/
def cmp2 (w v : Nat → Int) (n : Nat) : Int := v (w n).toNat
/-- a pair whose minimum and maximum stand in bounds -/
structure Pr (P M : Nat) (c d : Cv) : Prop where
  lc : c.2.1.length ≤ 100000 ∧ 0 < c.2.2.length ∧ c.2.2.length ≤ 1000
  ld : d.2.1.length ≤ 100000 ∧ 0 < d.2.2.length ∧ d.2.2.length ≤ 1000
  p : perC c d ≤ P ∧ P ≤ 1000
  e1 : exC c d ≤ M
  e2 : exC d c ≤ M
  g : -1000000000000000000 < gainC c d ∧ gainC c d < 1000000000000000000
  z : ahC c d + P * M + P + 1 ≤ 100000
theorem Pr.swap {P M : Nat} {c d : Cv} (q : Pr P M c d) : Pr P M d c := by
  have e : perC d c = perC c d := Nat.lcm_comm _ _
  have f : ahC d c = ahC c d := Nat.max_comm _ _
  exact ⟨q.ld, q.lc, by rw [e]; exact q.p, q.e2, q.e1, by rw [gain_swap]; have := q.g; omega, by rw [f]; exact q.z⟩
theorem Cu.pr {H P M : Nat} {b : Int} {w v : Nat → Int} {c d : Cv} (oc : Cu H P b w c) (od : Cu H P b v d) (hP : 0 < P ∧ P ≤ 1000) (hb : b ≤ 1000000000) (hM : b * (H + P + 1 : Nat) ≤ M) (hz : H + P * M + P + 1 ≤ 100000) : Pr P M c d ∧ perC c d ∣ P ∧ ahC c d ≤ H := by
  have lc := oc.l
  have ld := od.l
  have pc := oc.lp hP.1
  have pd := od.lp hP.1
  have hp : perC c d ∣ P := Nat.lcm_dvd lc.2.2 ld.2.2
  have hp2 := Nat.le_of_dvd hP.1 hp
  have p0 := perC_pos lc.2.1 ld.2.1
  have ha : ahC c d ≤ H := by unfold ahC; omega
  have nn := oc.nn
  have ub : ∀ t, t ≤ P → b + ((H + t : Nat) : Int) * b ≤ M := fun t ht => by
    have e : b + ((H + t : Nat) : Int) * b = b * ((H + t + 1 : Nat) : Int) := by rw [Int.mul_comm, Int.natCast_add (H + t), Int.mul_add]; omega
    rw [e]
    exact Int.le_trans (Int.mul_le_mul_of_nonneg_left (by omega) nn) hM
  have vb : ∀ n, n ≤ H + P → w n ≤ M ∧ v n ≤ M := fun n hn => by
    have a := (oc.mono' hn)
    have a' := (oc.le (H + P)).2
    have b' := (od.mono' hn)
    have b'' := (od.le (H + P)).2
    have := ub P (Nat.le_refl _)
    omega
  have ha2 : ahC d c = ahC c d := Nat.max_comm _ _
  have hp3 : perC d c = perC c d := Nat.lcm_comm _ _
  refine ⟨⟨by omega, by omega, by omega, ?_, ?_, ?_, by omega⟩, hp, ha⟩
  · obtain ⟨⟨t, ht, e⟩, _⟩ := ex_in (c := c) (d := d) p0
    rw [e]
    unfold DC
    rw [oc.v, od.v]
    have := vb (ahC c d + t) (by omega)
    have := (od.le (ahC c d + t)).1
    omega
  · obtain ⟨⟨t, ht, e⟩, _⟩ := ex_in (c := d) (d := c) (perC_pos ld.2.1 lc.2.1)
    rw [e]
    unfold DC
    rw [oc.v, od.v]
    have := vb (ahC d c + t) (by omega)
    have := (oc.le (ahC d c + t)).1
    omega
  · have q1 : VC c (ahC c d + perC c d) = VC c (ahC c d) + riseC c (perC c d) := VC_per lc.2.1 (by unfold ahC; omega) (Nat.dvd_lcm_left _ _)
    have q2 : VC d (ahC c d + perC c d) = VC d (ahC c d) + riseC d (perC c d) := VC_per ld.2.1 (by unfold ahC; omega) (Nat.dvd_lcm_right _ _)
    rw [oc.v, oc.v] at q1
    rw [od.v, od.v] at q2
    have m1 := vb (ahC c d + perC c d) (by omega)
    have m2 := vb (ahC c d) (by omega)
    have n1 := (oc.le (ahC c d)).1
    have n2 := (od.le (ahC c d)).1
    have n3 := (oc.le (ahC c d + perC c d)).1
    have n4 := (od.le (ahC c d + perC c d)).1
    have pm : M ≤ P * M := Nat.le_mul_of_pos_left _ hP.1
    unfold gainC
    omega
end Ev

namespace Law
open PySem Ev
theorem ds_eq : rs.map (·.d) = ds := rfl
theorem ok_least_point : DdOk P rs blt mth cns cls ist sng r_least_point := ⟨⟨rfl, rfl, rfl, by decide +kernel, rfl, by decide +kernel, by decide +kernel⟩, rfl, rfl, by decide +kernel, fun _ _ _ _ _ _ us hl => match us, hl with | [_, _], _ => rfl⟩
theorem ok_greatest_point : DdOk P rs blt mth cns cls ist sng r_greatest_point := ⟨⟨rfl, rfl, rfl, by decide +kernel, rfl, by decide +kernel, by decide +kernel⟩, rfl, rfl, by decide +kernel, fun _ _ _ _ _ _ us hl => match us, hl with | [_, _], _ => rfl⟩
theorem ok_is_unbounded : DdOk P rs blt mth cns cls ist sng r_is_unbounded := ⟨⟨rfl, rfl, rfl, by decide +kernel, rfl, by decide +kernel, by decide +kernel⟩, rfl, rfl, by decide +kernel, fun _ _ _ _ _ _ us hl => match us, hl with | [_], _ => rfl⟩
theorem ok_lower_at : DdOk P rs blt mth cns cls ist sng r_lower_at := ⟨⟨rfl, rfl, rfl, by decide +kernel, rfl, by decide +kernel, by decide +kernel⟩, rfl, rfl, by decide +kernel, fun _ _ _ _ _ _ us hl => match us, hl with | [_, _], _ => rfl⟩
theorem ok_upper_at : DdOk P rs blt mth cns cls ist sng r_upper_at := ⟨⟨rfl, rfl, rfl, by decide +kernel, rfl, by decide +kernel, by decide +kernel⟩, rfl, rfl, by decide +kernel, fun _ _ _ _ _ _ us hl => match us, hl with | [_, _], _ => rfl⟩
theorem ok__check_unbounded : DdOk P rs blt mth cns cls ist sng r__check_unbounded := ⟨⟨rfl, rfl, rfl, by decide +kernel, rfl, by decide +kernel, by decide +kernel⟩, rfl, rfl, by decide +kernel, fun _ _ _ _ _ _ us hl => match us, hl with | [_], _ => rfl⟩
theorem ok__law_tape : DdOk P rs blt mth cns cls ist sng r__law_tape := ⟨⟨rfl, rfl, rfl, by decide +kernel, rfl, by decide +kernel, by decide +kernel⟩, rfl, rfl, by decide +kernel, fun _ _ _ _ _ _ us hl => match us, hl with | [_], _ => rfl⟩
theorem ok__law_draw : DdOk P rs blt mth cns cls ist sng r__law_draw := ⟨⟨rfl, rfl, rfl, by decide +kernel, rfl, by decide +kernel, by decide +kernel⟩, rfl, rfl, by decide +kernel, fun _ _ _ _ _ _ us hl => match us, hl with | [_, _], _ => rfl⟩
theorem ok__law_point : DdOk P rs blt mth cns cls ist sng r__law_point := ⟨⟨rfl, rfl, rfl, by decide +kernel, rfl, by decide +kernel, by decide +kernel⟩, rfl, rfl, by decide +kernel, fun _ _ _ _ _ _ us hl => match us, hl with | [_], _ => rfl⟩
theorem ok__law_whole : DdOk P rs blt mth cns cls ist sng r__law_whole := ⟨⟨rfl, rfl, rfl, by decide +kernel, rfl, by decide +kernel, by decide +kernel⟩, rfl, rfl, by decide +kernel, fun _ _ _ _ _ _ us hl => match us, hl with | [_], _ => rfl⟩
theorem ok__law_single : DdOk P rs blt mth cns cls ist sng r__law_single := ⟨⟨rfl, rfl, rfl, by decide +kernel, rfl, by decide +kernel, by decide +kernel⟩, rfl, rfl, by decide +kernel, fun _ _ _ _ _ _ us hl => match us, hl with | [_], _ => rfl⟩
theorem ok__law_at : DdOk P rs blt mth cns cls ist sng r__law_at := ⟨⟨rfl, rfl, rfl, by decide +kernel, rfl, by decide +kernel, by decide +kernel⟩, rfl, rfl, by decide +kernel, fun _ _ _ _ _ _ us hl => match us, hl with | [_, _], _ => rfl⟩
theorem ok__law_rise : DdOk P rs blt mth cns cls ist sng r__law_rise := ⟨⟨rfl, rfl, rfl, by decide +kernel, rfl, by decide +kernel, by decide +kernel⟩, rfl, rfl, by decide +kernel, fun _ _ _ _ _ _ us hl => match us, hl with | [_, _], _ => rfl⟩
theorem ok__law_longer : DdOk P rs blt mth cns cls ist sng r__law_longer := ⟨⟨rfl, rfl, rfl, by decide +kernel, rfl, by decide +kernel, by decide +kernel⟩, rfl, rfl, by decide +kernel, fun _ _ _ _ _ _ us hl => match us, hl with | [_, _, _], _ => rfl⟩
theorem ok__law_curve : DdOk P rs blt mth cns cls ist sng r__law_curve := ⟨⟨rfl, rfl, rfl, by decide +kernel, rfl, by decide +kernel, by decide +kernel⟩, rfl, rfl, by decide +kernel, fun _ _ _ _ _ _ us hl => match us, hl with | [_, _, _], _ => rfl⟩
theorem ok__law_growing : DdOk P rs blt mth cns cls ist sng r__law_growing := ⟨⟨rfl, rfl, rfl, by decide +kernel, rfl, by decide +kernel, by decide +kernel⟩, rfl, rfl, by decide +kernel, fun _ _ _ _ _ _ us hl => match us, hl with | [_, _, _], _ => rfl⟩
theorem ok__law_refused : DdOk P rs blt mth cns cls ist sng r__law_refused := ⟨⟨rfl, rfl, rfl, by decide +kernel, rfl, by decide +kernel, by decide +kernel⟩, rfl, rfl, by decide +kernel, fun _ _ _ _ _ _ us hl => match us, hl with | [_, _, _], _ => rfl⟩
theorem ok__law_told : DdOk P rs blt mth cns cls ist sng r__law_told := ⟨⟨rfl, rfl, rfl, by decide +kernel, rfl, by decide +kernel, by decide +kernel⟩, rfl, rfl, by decide +kernel, fun _ _ _ _ _ _ us hl => match us, hl with | [_, _, _], _ => rfl⟩
theorem ok__law_right : DdOk P rs blt mth cns cls ist sng r__law_right := ⟨⟨rfl, rfl, rfl, by decide +kernel, rfl, by decide +kernel, by decide +kernel⟩, rfl, rfl, by decide +kernel, fun _ _ _ _ _ _ us hl => match us, hl with | [_, _, _, _], _ => rfl⟩
theorem ok_law : DdOk P rs blt mth cns cls ist sng r_law := ⟨⟨rfl, rfl, rfl, by decide +kernel, rfl, by decide +kernel, by decide +kernel⟩, rfl, rfl, by decide +kernel, fun _ _ _ _ _ _ us hl => match us, hl with | [_], _ => rfl⟩
theorem oks : ∀ r ∈ rs, DdOk P rs blt mth cns cls ist sng r := by
  intro r hr
  simp only [rs, List.mem_cons, List.not_mem_nil, or_false] at hr
  rcases hr with rfl | rfl | rfl | rfl | rfl | rfl | rfl | rfl | rfl | rfl | rfl | rfl | rfl | rfl | rfl | rfl | rfl | rfl | rfl | rfl
  · exact ok_least_point
  · exact ok_greatest_point
  · exact ok_is_unbounded
  · exact ok_lower_at
  · exact ok_upper_at
  · exact ok__check_unbounded
  · exact ok__law_tape
  · exact ok__law_draw
  · exact ok__law_point
  · exact ok__law_whole
  · exact ok__law_single
  · exact ok__law_at
  · exact ok__law_rise
  · exact ok__law_longer
  · exact ok__law_curve
  · exact ok__law_growing
  · exact ok__law_refused
  · exact ok__law_told
  · exact ok__law_right
  · exact ok_law
theorem sngs : ∀ p ∈ sng, ∃ r ∈ rs, r.y = p.1 ∧ r.ps.length = 1 ∧ sngB { ccOf P rs blt mth cns cls ist sng r with sng := [] } p.2.1 (L2.defBody (stOf P r.i)) = some p.2.2 := by
  intro p hp
  simp only [sng, List.mem_cons, List.not_mem_nil, or_false] at hp
  rcases hp with rfl
  · exact ⟨r__law_single, by simp [rs], rfl, rfl, by decide +kernel⟩
theorem go_least_point {k : Nat} {h : Hw} {Q : W → Hw → Prop} {E : Ex → Hw → Prop} {a0 a1 : W} (w : wps (evSs (PhiN ds k) s_least_point [some a0, some a1, none, none, none, none, none, none] h) (fin h Q E)) : wp (PhiN ds (k + 1) 0 [a0, a1] h) Q E := wp_fn (d := d_least_point) rfl rfl w
theorem go_greatest_point {k : Nat} {h : Hw} {Q : W → Hw → Prop} {E : Ex → Hw → Prop} {a0 a1 : W} (w : wps (evSs (PhiN ds k) s_greatest_point [some a0, some a1] h) (fin h Q E)) : wp (PhiN ds (k + 1) 1 [a0, a1] h) Q E := wp_fn (d := d_greatest_point) rfl rfl w
theorem go_is_unbounded {k : Nat} {h : Hw} {Q : W → Hw → Prop} {E : Ex → Hw → Prop} {a0 : W} (w : wps (evSs (PhiN ds k) s_is_unbounded [some a0] h) (fin h Q E)) : wp (PhiN ds (k + 1) 2 [a0] h) Q E := wp_fn (d := d_is_unbounded) rfl rfl w
theorem go_lower_at {k : Nat} {h : Hw} {Q : W → Hw → Prop} {E : Ex → Hw → Prop} {a0 a1 : W} (w : wps (evSs (PhiN ds k) s_lower_at [some a0, some a1] h) (fin h Q E)) : wp (PhiN ds (k + 1) 3 [a0, a1] h) Q E := wp_fn (d := d_lower_at) rfl rfl w
theorem go_upper_at {k : Nat} {h : Hw} {Q : W → Hw → Prop} {E : Ex → Hw → Prop} {a0 a1 : W} (w : wps (evSs (PhiN ds k) s_upper_at [some a0, some a1] h) (fin h Q E)) : wp (PhiN ds (k + 1) 4 [a0, a1] h) Q E := wp_fn (d := d_upper_at) rfl rfl w
theorem go__check_unbounded {k : Nat} {h : Hw} {Q : W → Hw → Prop} {E : Ex → Hw → Prop} {a0 : W} (w : wps (evSs (PhiN ds k) s__check_unbounded [some a0] h) (fin h Q E)) : wp (PhiN ds (k + 1) 5 [a0] h) Q E := wp_fn (d := d__check_unbounded) rfl rfl w
theorem go__law_tape {k : Nat} {h : Hw} {Q : W → Hw → Prop} {E : Ex → Hw → Prop} {a0 : W} (w : wps (evSs (PhiN ds k) s__law_tape [some a0, none, none] h) (fin h Q E)) : wp (PhiN ds (k + 1) 6 [a0] h) Q E := wp_fn (d := d__law_tape) rfl rfl w
theorem go__law_draw {k : Nat} {h : Hw} {Q : W → Hw → Prop} {E : Ex → Hw → Prop} {a0 a1 : W} (w : wps (evSs (PhiN ds k) s__law_draw [some a0, some a1, none, none] h) (fin h Q E)) : wp (PhiN ds (k + 1) 7 [a0, a1] h) Q E := wp_fn (d := d__law_draw) rfl rfl w
theorem go__law_point {k : Nat} {h : Hw} {Q : W → Hw → Prop} {E : Ex → Hw → Prop} {a0 : W} (w : wps (evSs (PhiN ds k) s__law_point [some a0] h) (fin h Q E)) : wp (PhiN ds (k + 1) 8 [a0] h) Q E := wp_fn (d := d__law_point) rfl rfl w
theorem go__law_whole {k : Nat} {h : Hw} {Q : W → Hw → Prop} {E : Ex → Hw → Prop} {a0 : W} (w : wps (evSs (PhiN ds k) s__law_whole [some a0] h) (fin h Q E)) : wp (PhiN ds (k + 1) 9 [a0] h) Q E := wp_fn (d := d__law_whole) rfl rfl w
theorem go__law_single {k : Nat} {h : Hw} {Q : W → Hw → Prop} {E : Ex → Hw → Prop} {a0 : W} (w : wps (evSs (PhiN ds k) s__law_single [some a0, none] h) (fin h Q E)) : wp (PhiN ds (k + 1) 10 [a0] h) Q E := wp_fn (d := d__law_single) rfl rfl w
theorem go__law_at {k : Nat} {h : Hw} {Q : W → Hw → Prop} {E : Ex → Hw → Prop} {a0 a1 : W} (w : wps (evSs (PhiN ds k) s__law_at [some a0, some a1, none, none, none] h) (fin h Q E)) : wp (PhiN ds (k + 1) 11 [a0, a1] h) Q E := wp_fn (d := d__law_at) rfl rfl w
theorem go__law_rise {k : Nat} {h : Hw} {Q : W → Hw → Prop} {E : Ex → Hw → Prop} {a0 a1 : W} (w : wps (evSs (PhiN ds k) s__law_rise [some a0, some a1, none] h) (fin h Q E)) : wp (PhiN ds (k + 1) 12 [a0, a1] h) Q E := wp_fn (d := d__law_rise) rfl rfl w
theorem go__law_longer {k : Nat} {h : Hw} {Q : W → Hw → Prop} {E : Ex → Hw → Prop} {a0 a1 a2 : W} (w : wps (evSs (PhiN ds k) s__law_longer [some a0, some a1, some a2, none] h) (fin h Q E)) : wp (PhiN ds (k + 1) 13 [a0, a1, a2] h) Q E := wp_fn (d := d__law_longer) rfl rfl w
theorem go__law_curve {k : Nat} {h : Hw} {Q : W → Hw → Prop} {E : Ex → Hw → Prop} {a0 a1 a2 : W} (w : wps (evSs (PhiN ds k) s__law_curve [some a0, some a1, some a2, none, none, none, none] h) (fin h Q E)) : wp (PhiN ds (k + 1) 14 [a0, a1, a2] h) Q E := wp_fn (d := d__law_curve) rfl rfl w
theorem go__law_growing {k : Nat} {h : Hw} {Q : W → Hw → Prop} {E : Ex → Hw → Prop} {a0 a1 a2 : W} (w : wps (evSs (PhiN ds k) s__law_growing [some a0, some a1, some a2, none, none] h) (fin h Q E)) : wp (PhiN ds (k + 1) 15 [a0, a1, a2] h) Q E := wp_fn (d := d__law_growing) rfl rfl w
theorem go__law_refused {k : Nat} {h : Hw} {Q : W → Hw → Prop} {E : Ex → Hw → Prop} {a0 a1 a2 : W} (w : wps (evSs (PhiN ds k) s__law_refused [some a0, some a1, some a2, none, none, none] h) (fin h Q E)) : wp (PhiN ds (k + 1) 16 [a0, a1, a2] h) Q E := wp_fn (d := d__law_refused) rfl rfl w
theorem go__law_told {k : Nat} {h : Hw} {Q : W → Hw → Prop} {E : Ex → Hw → Prop} {a0 a1 a2 : W} (w : wps (evSs (PhiN ds k) s__law_told [some a0, some a1, some a2, none, none] h) (fin h Q E)) : wp (PhiN ds (k + 1) 17 [a0, a1, a2] h) Q E := wp_fn (d := d__law_told) rfl rfl w
theorem go__law_right {k : Nat} {h : Hw} {Q : W → Hw → Prop} {E : Ex → Hw → Prop} {a0 a1 a2 a3 : W} (w : wps (evSs (PhiN ds k) s__law_right [some a0, some a1, some a2, some a3, none, none, none, none] h) (fin h Q E)) : wp (PhiN ds (k + 1) 18 [a0, a1, a2, a3] h) Q E := wp_fn (d := d__law_right) rfl rfl w
theorem go_law {k : Nat} {h : Hw} {Q : W → Hw → Prop} {E : Ex → Hw → Prop} {a0 : W} (w : wps (evSs (PhiN ds k) s_law [some a0, none, none, none, none, none, none, none, none] h) (fin h Q E)) : wp (PhiN ds (k + 1) 19 [a0] h) Q E := wp_fn (d := d_law) rfl rfl w
end Law

local macro_rules
  | `(tactic| simp! only [$as,*] $[$loc]?) => `(tactic| try simp -implicitDefEqProofs -dsimp (disch := first | omega | (simp only [List.length_set, List.length_append, List.length_cons, List.length_nil, List.length_map]; omega)) only [↓Ev.wp_lck, ↓Ev.wp_chn, ↓Ev.wp_idk, ↓Ev.wp_idi, ↓Ev.ws_lckS, ↓Ev.mt_ins, ↓Ev.mt_rem, ↓Ev.mt_cnt, ↓Ev.dkV_ref, ↓Ev.diV_ref, ↓Ev.uq_n, ↓Ev.uq_b, 
    ↓Ev.uq_c, ↓Ev.uq_r, ↓Ev.uq_z, ↓Ev.wp_ok, ↓Ev.wp_err, ↓Ev.wp_exc, ↓Ev.wp_bind, ↓Ev.wp_var, ↓Ev.wp_cst, ↓Ev.wp_bin, ↓Ev.wp_neg, ↓Ev.wp_cmp, ↓Ev.wp_and, 
    ↓Ev.wp_or, ↓Ev.wp_not, ↓Ev.wp_ite, ↓Ev.wp_tup, ↓Ev.wp_lst, ↓Ev.wp_idx, ↓Ev.wp_slc, ↓Ev.wp_call, ↓Ev.wp_bi, ↓Ev.wp_bl, ↓Ev.wp_mt, ↓Ev.wp_mk, ↓Ev.wp_lr1, 
    ↓Ev.wp_lr2, ↓Ev.wp_aa, ↓Ev.wp_tr2, ↓Ev.wp_maxD, ↓Ev.wp_srt, ↓Ev.wp_glc, ↓Ev.wp_rgN, ↓Ev.wp_srtD, ↓Ev.wp_lc2, ↓Ev.wp_i3, ↓Ev.wp_ir, ↓Ev.mt_rev, 
    ↓Ev.wp_iv, ↓Ev.mt_pp, ↓Ev.mt_ppA, ↓Ev.wp_esn, ↓Ev.wp_esc, ↓Ev.wp_pn, ↓Ev.wp_pa, ↓Ev.wp_tv, ↓Ev.wp_ta, ↓Ev.wp_to, ↓Ev.wp_tn, ↓Ev.wp_lo, ↓Ev.wp_ld, 
    ↓Ev.wp_lc, ↓Ev.wp_tsn, ↓Ev.wp_tsc, ↓Ev.wp_io, ↓Ev.wp_i1, ↓Ev.wp_i2, ↓Ev.wp_iz, ↓Ev.wp_ie, ↓Ev.wo_some, ↓Ev.wo_none, ↓Ev.br_t, ↓Ev.br_f, ↓Ev.wps_ok, 
    ↓Ev.wps_st, ↓Ev.wb_add, ↓Ev.wb_sub, ↓Ev.wb_mulR, ↓Ev.wb_mulL, ↓Ev.wb_div, ↓Ev.wb_mod, ↓Ev.wb_pow, ↓Ev.wb_addT, ↓Ev.wb_mulT, ↓Ev.wb_addL, ↓Ev.wb_mulLs, 
    ↓Ev.wn_neg, ↓Ev.wc_eq, ↓Ev.wc_ne, ↓Ev.wc_lt, ↓Ev.wc_le, ↓Ev.wc_gt, ↓Ev.wc_ge, ↓Ev.wc_in, ↓Ev.wc_nin, ↓Ev.wc_isN, ↓Ev.wc_notN, ↓Ev.item_int, ↓Ev.sl_tup, 
    ↓Ev.sl_ref, ↓Ev.bi_len, ↓Ev.bi_abs, ↓Ev.bi_int, ↓Ev.bi_intb, ↓Ev.bi_isI, ↓Ev.bi_max, ↓Ev.bi_min, ↓Ev.bi_divmod, ↓Ev.bi_lcm, ↓Ev.bi_gcd, ↓Ev.bl_sum, 
    ↓Ev.bl_tuple, ↓Ev.bl_list, ↓Ev.bl_len, ↓Ev.bl_max, ↓Ev.bl_min, ↓Ev.mt_app, ↓Ev.mt_ext, ↓Ev.mt_extT, ↓Ev.mt_ix, ↓Ev.setIt_ref, ↓Ev.ws_n, ↓Ev.ws_c, 
    ↓Ev.ws_expr, ↓Ev.ws_asg, ↓Ev.ws_set, ↓Ev.ws_aug, ↓Ev.ws_augS, ↓Ev.ws_bad, ↓Ev.ws_if, ↓Ev.ws_for, ↓Ev.ws_whl, ↓Ev.ws_ret, ↓Ev.ws_retN, ↓Ev.ws_brk, 
    ↓Ev.ws_cont, ↓Ev.ws_pass, ↓Ev.sq_n, ↓Ev.sq_b, ↓Ev.sq_c, ↓Ev.sq_r, ↓Ev.sq_z, ↓Ev.fin_ret, ↓Ev.fin_next, ↓Ev.fin_rz, ↓Ev.ws_rz, ↓Ev.ws_try, ↓Ev.ws_tryA, 
    ↓Ev.tqa_n, ↓Ev.tqa_b, ↓Ev.tqa_c, ↓Ev.tqa_r, ↓Ev.tqa_zi, ↓Ev.ws_dset, ↓Ev.ws_daug, ↓Ev.dputV_ref, ↓Ev.wp_dnew, ↓Ev.wp_dget, ↓Ev.wp_din, ↓Ev.dgetV_ref, 
    ↓Ev.dinV_ref, ↓Ev.wp_dgt, ↓Ev.dgtV_ref, ↓Ev.wp_dst, ↓Ev.dstV_ref, ↓Ev.wp_dmk, ↓Ev.wp_dcp, ↓Ev.wp_ddl, ↓Ev.wp_dcm, ↓Ev.wp_dvm, ↓Ev.wp_dsr, ↓Ev.wp_trv, 
    ↓Ev.wp_tix, ↓Ev.wp_irv, ↓Ev.tq_n, ↓Ev.tq_b, ↓Ev.tq_c, ↓Ev.tq_r, ↓Ev.tq_zi, ↓Ev.isTy_cv, ↓Ev.isTy_rt, ↓Ev.tr_cv, ↓Ev.tr_rt, Ev.refW_ref, Ev.blW_bl, 
    Ev.dicLk_set, Ev.dicLk_al, Ev.dicLk_ne, Ev.dicW_ref, Ev.frW_ref, Ev.tupW_tup, Ev.dicAt_z, Ev.dicAt_s, Ev.dicAt_al, Ev.dicAt_e, Ev.dicAt_ar, 
    Ev.dicAt_set, Ev.dicAt_ne, Ev.dicFr_z, Ev.dicFr_s, Ev.dicFr_al, Ev.dicFr_e, Ev.dicFr_ar, Ev.dicFr_set, Ev.dicFr_ne, Ev.toPr2_one, Ev.toPr2_two, 
    Ev.look_z, Ev.look_s, Ev.rgW_rg, Ev.isNon_non, Ev.isNon_bl, Ev.isNon_int, Ev.isNon_str, Ev.isNon_tup, Ev.isNon_fl, Ev.isNon_ref, Ev.eqW_int, Ev.eqW_bl, 
    Ev.tr_non, Ev.tr_bl, Ev.tr_int, Ev.tr_tup, Ev.ixN_in, Ev.ixN_neg, Ev.mtW_ref, Ev.seqOf_ref, Ev.seqOf_tup, Ev.seqOf_fl, Ev.seqOf_rt, Ev.seqOf_cv, 
    Ev.isNon_rt, Ev.isNon_cv, Ev.isTup_rt, Ev.isTup_cv, Ev.guOf_rt, Ev.guOf_cv, Ev.isTy_rt, Ev.isTy_cv, Ev.cv_eq, Ev.rt_eq, Ev.asg_rt, Ev.asg_cv, 
    Ev.asg_var, Ev.asg_tup2, Ev.asg_tup3, Ev.isTy, Ev.guOf, Ev.isTup, Ev.intW, Ev.aug_add, Ev.aug_sub, Ev.augO_a, Ev.augO_s, Ev.lstAt_z, Ev.lstAt_s, 
    Ev.lstAt_al, Ev.lstAt_e, Ev.lstAt_ar, Nat.sub_self, Nat.add_sub_cancel_left, Nat.reduceSubDiff, List.append_assoc, Ev.lstAt_set, Ev.lstAt_ne, 
    Ev.toInts_ints, Ev.toInts_nil, Ev.toInts_cons, Ev.toBls_nil, Ev.toBls_cons, Option.map_some, List.set_cons_succ, List.set_cons_zero, 
    List.getElem?_cons_zero, List.getElem?_cons_succ, List.getElem_cons_zero, List.getElem_cons_succ, List.length_cons, List.length_nil, List.length_set, 
    List.length_append, List.length_map, List.nil_append, List.cons_append, List.append_nil, List.set_set, Nat.reduceAdd, Nat.reduceLeDiff, Nat.reduceLT, 
    Nat.reduceSub, true_and, and_true, Bool.not_true, Bool.not_false, decide_true, decide_false, Int.reduceToNat, Int.reducePow, Int.reduceNeg, 
    Int.cast_ofNat_Int, decide_eq_true_eq, Nat.zero_add, Nat.add_zero, Int.toNat_natCast, Int.reduceLT, Int.reduceLE, Int.reduceBNe, Int.reduceEq, 
    Int.natCast_add, Nat.le_refl, $as,*] $[$loc]?)

namespace Law
open PySem Ev
/-! the tape -/
def IsT (q : Nat) (o : O) : Prop := ∃ a b c : Int, 0 ≤ a ∧ o = .lst [.ref q, .int a, .int b, .int c]
structure Tp (q p : Nat) (h : Hw) : Prop where
  ne : p ≠ q
  src : ∃ ns : List Int, lstAt h q = some (ns.map W.int)
  at_ : ∃ a b c : Int, 0 ≤ a ∧ lstAt h p = some [.ref q, .int a, .int b, .int c]
theorem Tp.lt {q p : Nat} {h : Hw} (t : Tp q p h) : p < h.length := by obtain ⟨_, _, _, _, e⟩ := t.at_; exact lstAt_lt e
theorem Tp.ltq {q p : Nat} {h : Hw} (t : Tp q p h) : q < h.length := by obtain ⟨_, e⟩ := t.src; exact lstAt_lt e
theorem Tp.set {q p : Nat} {h : Hw} {o : O} (t : Tp q p h) (i : IsT q o) : Tp q p (h.set p o) := by
  obtain ⟨a, b, c, ha, rfl⟩ := i
  obtain ⟨ns, e⟩ := t.src
  exact ⟨t.ne, ⟨ns, by rw [lstAt_ne t.ne]; exact e⟩, a, b, c, ha, lstAt_set t.lt⟩
theorem Tp.app {q p : Nat} {h : Hw} (t : Tp q p h) (g : Hw) : Tp q p (h ++ g) := by
  obtain ⟨ns, e⟩ := t.src
  obtain ⟨a, b, c, ha, e2⟩ := t.at_
  exact ⟨t.ne, ⟨ns, by rw [lstAt_al t.ltq]; exact e⟩, a, b, c, ha, by rw [lstAt_al t.lt]; exact e2⟩
theorem Tp.self {q p : Nat} {h : Hw} (t : Tp q p h) : ∃ o, IsT q o ∧ h = h.set p o := by
  obtain ⟨a, b, c, ha, e2⟩ := t.at_
  refine ⟨_, ⟨a, b, c, ha, rfl⟩, ?_⟩
  have := lstAt_get e2
  rw [List.getElem?_eq_some_iff] at this
  obtain ⟨h1, h2⟩ := this
  rw [← h2, List.set_getElem_self]
theorem IsT.old {q p : Nat} {h g : Hw} {o : O} (i : IsT q o) (hq : q < h.length) (u : Old h g) : Old h (g.set p o) := by
  obtain ⟨a, b, c, ha, rfl⟩ := i
  exact u.set (blws_cons (blw_ref hq) (blws_cons blw_int (blws_cons blw_int (blws_cons blw_int blws_nil))))
theorem tape_wp {k : Nat} {ns : List Int} {Q : W → Hw → Prop} {E : Ex → Hw → Prop} (K : ∀ c : Int, Q (.ref 1) [.lst (ns.map W.int), .lst [.ref 0, .int 0, .int 0, .int c]]) : wp (PhiN ds (k + 1) 6 [.fl (ns.map W.int)] []) Q E := by
  refine go__law_tape ?_
  unfold s__law_tape
  simp! only []
  refine wps_for W.int ns (fun _ ρ h => ∃ t x, ρ = [some (.fl (ns.map W.int)), some (.int t), x] ∧ h = []) (fun _ _ _ _ => guOk_nil) ?_ ⟨7, none, rfl, rfl⟩ ?_
  · rintro pre a suf ρ h e ⟨t, x, rfl, rfl⟩
    simp! only [b__law_tape_1]
    exact ⟨_, _, rfl⟩
  · rintro ρ h ⟨t, x, rfl, rfl⟩
    simp! only []
    have e : tidy [] (.ref 1) [.lst (ns.map W.int), .lst [.ref 0, .int 0, .int 0, .int t]] = .ok (.ref 1) [.lst (ns.map W.int), .lst [.ref 0, .int 0, .int 0, .int t]] := by
      unfold tidy
      rw [if_pos ⟨Nat.zero_le _, fun i o hi => absurd hi (Nat.not_lt_zero _)⟩, if_neg (by unfold W.blw; exact Nat.not_lt_zero _)]
      simp only [List.getElem?_cons_succ, List.getElem?_cons_zero]
      rw [if_neg (by intro z; exact Nat.not_lt_zero _ (show 0 < 0 from (by have := blws_mem z (.ref 0) (by simp); unfold W.blw at this; exact this)))]
    rw [e]
    exact K t
theorem mod_rng (n m : Int) : 0 ≤ n % max m 1 ∧ n % max m 1 < max m 1 := ⟨Int.emod_nonneg _ (by omega), Int.emod_lt_of_pos _ (by omega)⟩
theorem draw_wp {k q p : Nat} {h : Hw} {m : Int} {Q : W → Hw → Prop} {E : Ex → Hw → Prop} (T : Tp q p h) (hm : m < 10000000000000000000000000000000000000000) (K : ∀ (r : Int) (o : O), 0 ≤ r → r < max m 1 → IsT q o → Q (.int r) (h.set p o)) : wp (PhiN ds (k + 1) 7 [.ref p, .int m] h) Q E := by
  obtain ⟨ns, e1⟩ := T.src
  obtain ⟨a, b, c, ha, e2⟩ := T.at_
  have hp := T.lt
  have hq := T.ltq
  have hne := T.ne
  refine go__law_draw ?_
  unfold s__law_draw
  simp! only [e1, e2]
  have tail : ∀ (ρ0 ρ1 : Option W) (a' n c' : Int), 0 ≤ a' → wps (evSs (PhiN ds k) (.cons (.asg (.var 2) (.idx (.var 0) (.cst (.int 2)))) (.cons (.set (.var 0) (.cst (.int 2)) (.bin .fdiv (.var 2) (.bi .max2 (.cons (.var 1) (.cons (.cst (.int 2)) .nil))))) (.cons (.ret (.bin .mod (.bi .toInt (.cons (.var 2) .nil)) (.bi .max2 (.cons (.var 1) (.cons (.cst (.int 1)) .nil))))) .nil))) [some (.ref p), some (.int m), ρ0, ρ1] (h.set p (.lst [.ref q, .int a', .int n, .int c']))) (fin h Q E) := by
    intro ρ0 ρ1 a' n c' ha'
    simp! only []
    rw [tidy_one (IsT.old (q := q) ⟨_, _, _, ha', rfl⟩ hq (Old.refl h)) blw_int]
    exact K _ _ (mod_rng n m).1 (mod_rng n m).2 ⟨_, _, _, ha', rfl⟩
  refine br_intro (fun hb => ?_) (fun hb => ?_)
  · subst hb
    have mid : ∀ (n c' : Int), wps (evSs (PhiN ds k) (.cons (.set (.var 0) (.cst (.int 1)) (.bin .add (.var 3) (.cst (.int 1)))) (.cons (.ifs (.val (.cmp .lt (.var 2) (.bin .pow (.cst (.int 10)) (.cst (.int 18))))) (.cons (.asg (.var 2) (.bin .mod (.bi .toInt (.cons (.bin .add (.bin .add (.bin .mul (.var 2) (.cst (.int 48271))) (.bin .mul (.var 3) (.cst (.int 69621)))) (.cst (.int 5))) (.nil))) (.cst (.int 2147483647)))) (.cons (.asg (.var 2) (.bin .mod (.bi .toInt (.cons (.bin .mul (.var 2) (.cst (.int 69621))) (.nil))) (.cst (.int 2147483629)))) (.cons (.ret (.bin .mod (.bi .toInt (.cons (.var 2) (.nil))) (.bi .max2 (.cons (.var 1) (.cons (.cst (.int 1)) (.nil)))))) (.nil)))) (.nil)) (.cons (.set (.var 0) (.cst (.int 2)) (.var 2)) (.nil)))) [some (.ref p), some (.int m), some (.int n), some (.int a)] (h.set p (.lst [.ref q, .int a, .int 0, .int c']))) (sq (PhiN ds k) (.cons (.asg (.var 2) (.idx (.var 0) (.cst (.int 2)))) (.cons (.set (.var 0) (.cst (.int 2)) (.bin .fdiv (.var 2) (.bi .max2 (.cons (.var 1) (.cons (.cst (.int 2)) .nil))))) (.cons (.ret (.bin .mod (.bi .toInt (.cons (.var 2) .nil)) (.bi .max2 (.cons (.var 1) (.cons (.cst (.int 1)) .nil))))) .nil))) (fin h Q E)) := by
      intro n c'
      simp! only []
      refine br_intro (fun hn => ?_) (fun hn => ?_)
      · simp! only []
        rw [tidy_one (IsT.old (q := q) ⟨a + 1, 0, c', by omega, rfl⟩ hq (Old.refl h)) blw_int]
        exact K _ _ (mod_rng _ m).1 (mod_rng _ m).2 ⟨_, _, _, by omega, rfl⟩
      · rw [ws_n, sq_n]
        have := tail (some (.int n)) (some (.int a)) (a + 1) n c' (by omega)
        simp! only []
        simp! only [] at this
        exact this
    simp! only [e1, e2]
    refine br_intro (fun hl => ?_) (fun hl => ?_)
    · have e5 := List.getElem?_eq_getElem (l := ns) (i := a.toNat) (by omega)
      simp! only [e1, e2, List.getElem?_map, e5]
      have := mid (if ns[a.toNat]'(by omega) < 0 then -(ns[a.toNat]'(by omega)) else ns[a.toNat]'(by omega)) c
      have e3 : h.set p (.lst [.ref q, .int a, .int 0, .int c]) = h := by
        have := lstAt_get e2
        rw [List.getElem?_eq_some_iff] at this
        obtain ⟨h1, h2⟩ := this
        rw [← h2, List.set_getElem_self]
      rw [e3] at this
      simp! only [e2] at this
      exact this
    · simp! only [e1, e2]
      have := mid (((c * 48271 + a + 1) % 2147483647)) ((c * 48271 + a + 1) % 2147483647)
      simp! only [] at this
      exact this
  · rw [ws_n, sq_n]
    have := tail none none a b c ha
    have e3 : h.set p (.lst [.ref q, .int a, .int b, .int c]) = h := by
      have := lstAt_get e2
      rw [List.getElem?_eq_some_iff] at this
      obtain ⟨h1, h2⟩ := this
      rw [← h2, List.set_getElem_self]
    rw [e3] at this
    exact this
/-- from h on: the tape moves, all else of h stands -/
structure Fr (q p : Nat) (h g : Hw) : Prop where
  len : h.length ≤ g.length
  same : ∀ i, i < h.length → p ≠ i → g[i]? = h[i]?
  tp : Tp q p g
theorem Fr.refl {q p : Nat} {h : Hw} (t : Tp q p h) : Fr q p h h := ⟨Nat.le_refl _, fun _ _ _ => rfl, t⟩
theorem Fr.trans {q p : Nat} {h g g' : Hw} (a : Fr q p h g) (b : Fr q p g g') : Fr q p h g' := ⟨Nat.le_trans a.len b.len, fun i hi hp => (b.same i (Nat.lt_of_lt_of_le hi a.len) hp).trans (a.same i hi hp), b.tp⟩
theorem Fr.app {q p : Nat} {h g : Hw} (a : Fr q p h g) (t : Hw) : Fr q p h (g ++ t) := by
  refine a.trans ⟨by simp, fun i hi _ => List.getElem?_append_left hi, a.tp.app t⟩
theorem Fr.put {q p : Nat} {h g : Hw} (a : Fr q p h g) {i : Nat} {o : O} (hi : h.length ≤ i) (T : Tp q p h) : Fr q p h (g.set i o) := by
  refine ⟨by rw [List.length_set]; exact a.len, fun j hj hp => ?_, ?_⟩
  · rw [List.getElem?_set_ne (by omega)]; exact a.same j hj hp
  · obtain ⟨ns, e⟩ := a.tp.src
    obtain ⟨x, y, z, hx, e2⟩ := a.tp.at_
    have := T.lt
    have := T.ltq
    exact ⟨T.ne, ⟨ns, by rw [lstAt_ne (by omega)]; exact e⟩, x, y, z, hx, by rw [lstAt_ne (by omega)]; exact e2⟩
theorem Fr.lst {q p : Nat} {h g : Hw} (a : Fr q p h g) {i : Nat} (hi : i < h.length) (hp : p ≠ i) : lstAt g i = lstAt h i := by
  unfold lstAt; rw [a.same i hi hp]
theorem Fr.old {q p : Nat} {h g : Hw} (a : Fr q p h g) (T : Tp q p h) : OldOk h g := by
  refine ⟨a.len, fun i o hi e => ?_⟩
  by_cases c : p = i
  · subst c
    obtain ⟨x, y, z, hx, e2⟩ := a.tp.at_
    rw [lstAt_get e2] at e
    cases e
    exact .inr (blws_cons (blw_ref T.ltq) (blws_cons blw_int (blws_cons blw_int (blws_cons blw_int blws_nil))))
  · rw [a.same i hi c] at e; exact .inl e
theorem Fr.cut {q p : Nat} {h g : Hw} (a : Fr q p h g) (T : Tp q p h) : Fr q p h (g.take h.length) ∧ (g.take h.length).length = h.length := by
  have hl : (g.take h.length).length = h.length := by rw [List.length_take]; exact Nat.min_eq_left a.len
  have ls : ∀ i, i < h.length → lstAt (g.take h.length) i = lstAt g i := fun i hi => by unfold lstAt; rw [List.getElem?_take_of_lt hi]
  refine ⟨⟨by omega, fun i hi hp => by rw [List.getElem?_take_of_lt hi]; exact a.same i hi hp, ?_⟩, hl⟩
  obtain ⟨ns, e⟩ := a.tp.src
  obtain ⟨x, y, z, hx, e2⟩ := a.tp.at_
  exact ⟨T.ne, ⟨ns, by rw [ls _ T.ltq]; exact e⟩, x, y, z, hx, by rw [ls _ T.lt]; exact e2⟩
theorem tidy_fr {q p : Nat} {h g : Hw} {w : W} {Q : W → Hw → Prop} {E : Ex → Hw → Prop} (a : Fr q p h g) (T : Tp q p h) (b : w.blw h.length) (K : ∀ g', Fr q p h g' → g'.length = h.length → Q w g') : wp (tidy h w g) Q E := by
  unfold tidy
  rw [if_pos (a.old T), if_pos b]
  exact K _ (a.cut T).1 (a.cut T).2
theorem draw2 {k q p : Nat} {h : Hw} {m : Int} {Q : W → Hw → Prop} {E : Ex → Hw → Prop} (T : Tp q p h) (hm : m < 10000000000000000000000000000000000000000) (K : ∀ (r : Int) (h' : Hw), 0 ≤ r → r < max m 1 → Fr q p h h' → h'.length = h.length → Q (.int r) h') : wp (PhiN ds (k + 1) 7 [.ref p, .int m] h) Q E :=
  draw_wp T hm fun r o h1 h2 h3 => K r _ h1 h2 ⟨by simp, fun i _ hp => List.getElem?_set_ne hp, T.set h3⟩ (by simp)
theorem draw' {k q p : Nat} {h : Hw} {m : Int} {Q : W → Hw → Prop} {E : Ex → Hw → Prop} (T : Tp q p h) (hm : m < 10000000000000000000000000000000000000000) (K : ∀ (r : Int) (h' : Hw), 0 ≤ r → r < max m 1 → Tp q p h' → h'.length = h.length → (∀ i, p ≠ i → lstAt h' i = lstAt h i) → Q (.int r) h') : wp (PhiN ds (k + 1) 7 [.ref p, .int m] h) Q E :=
  draw_wp T hm fun r o h1 h2 h3 => K r _ h1 h2 (T.set h3) (by simp) (fun i hi => lstAt_ne hi)
/-- a comprehension of drawn numbers -/
theorem comp_ints {q p n : Nat} {h : Hw} {lo : Int} {g : IG} {test : En → Hw → Res Bool} {elt : En → Hw → Res W} {own : List Nat} {ρ : En} {Q : List W → Hw → Prop} {E : Ex → Hw → Prop} (P : Int → Prop) (T : Tp q p h) (hn : n < 16777216)
    (step : ∀ (i : Nat) (g' : Hw), i < n → Tp q p g' → g'.length = h.length → wo (asg g (.int (lo + (i : Int))) (wipe ρ own)) fun ρ' => wp (test ρ' g') (fun k g1 => br k (wp (elt ρ' g1) (fun y g2 => ∃ r : Int, y = .int r ∧ P r ∧ Fr q p g' g2 ∧ g2.length = g'.length) noE) False) noE)
    (K : ∀ (ns : List Int) (h' : Hw), ns.length = n → (∀ x ∈ ns, P x) → Fr q p h h' → h'.length = h.length → Q (ns.map W.int) h') : wp (compL g [] test elt own ρ (rng lo n) h []) Q E := by
  refine wp_compR (fun i g acc => Fr q p h g ∧ g.length = h.length ∧ ∃ ws : List Int, acc = ws.map W.int ∧ ws.length = i ∧ ∀ x ∈ ws, P x) ?_ ⟨Fr.refl T, rfl, [], rfl, rfl, by simp⟩ ?_
  · rintro i g' acc hi ⟨F, L, ws, rfl, rfl, hw⟩
    have s := step _ g' hi F.tp L
    generalize asg _ _ _ = o at s ⊢
    cases o with
    | none => exact s
    | some ρ' =>
      refine wp_mono (show wp _ _ noE from s) (fun k g1 b => ?_) (fun _ _ z => z)
      cases k with
      | false => exact b.elim
      | true =>
        refine wp_mono (show wp _ _ noE from b) (fun y g2 z => ?_) (fun _ _ z => z)
        obtain ⟨r, rfl, pr, F', L'⟩ := z
        refine ⟨by simp; omega, F.trans F', by omega, ws ++ [r], by simp, by simp, ?_⟩
        intro x hx
        rcases List.mem_append.mp hx with z | z
        · exact hw x z
        · rw [List.mem_singleton.mp z]; exact pr
  · rintro g acc ⟨F, L, ws, rfl, hl, hw⟩
    exact K ws g hl hw F L
/-- the same where the elements leave lists of their own -/
theorem comp_ints2 {q p n : Nat} {h : Hw} {lo : Int} {g : IG} {test : En → Hw → Res Bool} {elt : En → Hw → Res W} {own : List Nat} {ρ : En} {Q : List W → Hw → Prop} {E : Ex → Hw → Prop} (P : Int → Prop) (T : Tp q p h) (hn : n < 16777216)
    (step : ∀ (i : Nat) (g' : Hw), i < n → Tp q p g' → h.length ≤ g'.length → wo (asg g (.int (lo + (i : Int))) (wipe ρ own)) fun ρ' => wp (test ρ' g') (fun k g1 => br k (wp (elt ρ' g1) (fun y g2 => ∃ r : Int, y = .int r ∧ P r ∧ Fr q p g' g2) noE) False) noE)
    (K : ∀ (ns : List Int) (h' : Hw), ns.length = n → (∀ x ∈ ns, P x) → Fr q p h h' → Q (ns.map W.int) h') : wp (compL g [] test elt own ρ (rng lo n) h []) Q E := by
  refine wp_compR (fun i g acc => Fr q p h g ∧ ∃ ws : List Int, acc = ws.map W.int ∧ ws.length = i ∧ ∀ x ∈ ws, P x) ?_ ⟨Fr.refl T, [], rfl, rfl, by simp⟩ ?_
  · rintro i g' acc hi ⟨F, ws, rfl, rfl, hw⟩
    have s := step _ g' hi F.tp F.len
    generalize asg _ _ _ = o at s ⊢
    cases o with
    | none => exact s
    | some ρ' =>
      refine wp_mono (show wp _ _ noE from s) (fun k g1 b => ?_) (fun _ _ z => z)
      cases k with
      | false => exact b.elim
      | true =>
        refine wp_mono (show wp _ _ noE from b) (fun y g2 z => ?_) (fun _ _ z => z)
        obtain ⟨r, rfl, pr, F'⟩ := z
        refine ⟨by simp; omega, F.trans F', ws ++ [r], by simp, by simp, ?_⟩
        intro x hx
        rcases List.mem_append.mp hx with z | z
        · exact hw x z
        · rw [List.mem_singleton.mp z]; exact pr
  · rintro g acc ⟨F, ws, rfl, hl, hw⟩
    exact K ws g hl hw F
/-- a comprehension of drawn things -/
theorem comp_as {α : Type} (f : α → W) {q p n : Nat} {h : Hw} {lo : Int} {g : IG} {test : En → Hw → Res Bool} {elt : En → Hw → Res W} {own : List Nat} {ρ : En} {Q : List W → Hw → Prop} {E : Ex → Hw → Prop} (P : α → Prop) (T : Tp q p h) (hn : n < 16777216)
    (step : ∀ (i : Nat) (g' : Hw), i < n → Fr q p h g' → g'.length = h.length → wo (asg g (.int (lo + (i : Int))) (wipe ρ own)) fun ρ' => wp (test ρ' g') (fun k g1 => br k (wp (elt ρ' g1) (fun y g2 => ∃ r : α, y = f r ∧ P r ∧ Fr q p g' g2 ∧ g2.length = g'.length) noE) False) noE)
    (K : ∀ (as : List α) (h' : Hw), as.length = n → (∀ x ∈ as, P x) → Fr q p h h' → h'.length = h.length → Q (as.map f) h') : wp (compL g [] test elt own ρ (rng lo n) h []) Q E := by
  refine wp_compR (fun i g acc => Fr q p h g ∧ g.length = h.length ∧ ∃ ws : List α, acc = ws.map f ∧ ws.length = i ∧ ∀ x ∈ ws, P x) ?_ ⟨Fr.refl T, rfl, [], rfl, rfl, by simp⟩ ?_
  · rintro i g' acc hi ⟨F, L, ws, rfl, rfl, hw⟩
    have s := step _ g' hi F L
    generalize asg _ _ _ = o at s ⊢
    cases o with
    | none => exact s
    | some ρ' =>
      refine wp_mono (show wp _ _ noE from s) (fun k g1 b => ?_) (fun _ _ z => z)
      cases k with
      | false => exact b.elim
      | true =>
        refine wp_mono (show wp _ _ noE from b) (fun y g2 z => ?_) (fun _ _ z => z)
        obtain ⟨r, rfl, pr, F', L'⟩ := z
        refine ⟨by simp; omega, F.trans F', by omega, ws ++ [r], by simp, by simp, ?_⟩
        intro x hx
        rcases List.mem_append.mp hx with z | z
        · exact hw x z
        · rw [List.mem_singleton.mp z]; exact pr
  · rintro g acc ⟨F, L, ws, rfl, hl, hw⟩
    exact K ws g hl hw F L
/-- the same over a list -/
theorem comp_asL {α β : Type} (f : α → W) (fb : β → W) (bs : List β) {q p : Nat} {h : Hw} {g : IG} {gu : Gu} {test : En → Hw → Res Bool} {elt : En → Hw → Res W} {own : List Nat} {ρ : En} {Q : List W → Hw → Prop} {E : Ex → Hw → Prop} (P : α → Prop) (T : Tp q p h) (hn : bs.length < 16777216) (hg : ∀ g', Fr q p h g' → guOk gu g')
    (step : ∀ (b : β) (g' : Hw), b ∈ bs → Fr q p h g' → g'.length = h.length → wo (asg g (fb b) (wipe ρ own)) fun ρ' => wp (test ρ' g') (fun k g1 => br k (wp (elt ρ' g1) (fun y g2 => ∃ r : α, y = f r ∧ P r ∧ Fr q p g' g2 ∧ g2.length = g'.length) noE) False) noE)
    (K : ∀ (as : List α) (h' : Hw), as.length = bs.length → (∀ x ∈ as, P x) → Fr q p h h' → h'.length = h.length → Q (as.map f) h') : wp (compL g gu test elt own ρ (bs.map fb) h []) Q E := by
  refine wp_comp fb bs (fun pre g acc => Fr q p h g ∧ g.length = h.length ∧ ∃ ws : List α, acc = ws.map f ∧ ws.length = pre.length ∧ ∀ x ∈ ws, P x) (fun _ _ _ z => hg _ z.1) ?_ ⟨Fr.refl T, rfl, [], rfl, rfl, by simp⟩ ?_
  · rintro pre a suf g' acc e ⟨F, L, ws, rfl, hwl, hw⟩
    have s := step a g' (by rw [e]; simp) F L
    have hl2 : pre.length < bs.length := by rw [e]; simp
    generalize asg _ _ _ = o at s ⊢
    cases o with
    | none => exact s
    | some ρ' =>
      refine wp_mono (show wp _ _ noE from s) (fun k g1 b => ?_) (fun _ _ z => z)
      cases k with
      | false => exact b.elim
      | true =>
        refine wp_mono (show wp _ _ noE from b) (fun y g2 z => ?_) (fun _ _ z => z)
        obtain ⟨r, rfl, pr, F', L'⟩ := z
        refine ⟨by simp; omega, F.trans F', by omega, ws ++ [r], by simp, by simp; omega, ?_⟩
        intro x hx
        rcases List.mem_append.mp hx with z | z
        · exact hw x z
        · rw [List.mem_singleton.mp z]; exact pr
  · rintro g acc ⟨F, L, ws, rfl, hl, hw⟩
    exact K ws g hl hw F L
/-- a comprehension of drawn things that leave lists behind -/
theorem comp_as2 {α : Type} (f : α → W) {q p n : Nat} {h : Hw} {lo : Int} {g : IG} {test : En → Hw → Res Bool} {elt : En → Hw → Res W} {own : List Nat} {ρ : En} {Q : List W → Hw → Prop} {E : Ex → Hw → Prop} (P : α → Prop) (T : Tp q p h) (hn : n < 16777216)
    (step : ∀ (i : Nat) (g' : Hw), i < n → Fr q p h g' → wo (asg g (.int (lo + (i : Int))) (wipe ρ own)) fun ρ' => wp (test ρ' g') (fun k g1 => br k (wp (elt ρ' g1) (fun y g2 => ∃ r : α, y = f r ∧ P r ∧ Fr q p g' g2) noE) False) noE)
    (K : ∀ (as : List α) (h' : Hw), as.length = n → (∀ x ∈ as, P x) → Fr q p h h' → Q (as.map f) h') : wp (compL g [] test elt own ρ (rng lo n) h []) Q E := by
  refine wp_compR (fun i g acc => Fr q p h g ∧ ∃ ws : List α, acc = ws.map f ∧ ws.length = i ∧ ∀ x ∈ ws, P x) ?_ ⟨Fr.refl T, [], rfl, rfl, by simp⟩ ?_
  · rintro i g' acc hi ⟨F, ws, rfl, rfl, hw⟩
    have s := step _ g' hi F
    generalize asg _ _ _ = o at s ⊢
    cases o with
    | none => exact s
    | some ρ' =>
      refine wp_mono (show wp _ _ noE from s) (fun k g1 b => ?_) (fun _ _ z => z)
      cases k with
      | false => exact b.elim
      | true =>
        refine wp_mono (show wp _ _ noE from b) (fun y g2 z => ?_) (fun _ _ z => z)
        obtain ⟨r, rfl, pr, F'⟩ := z
        refine ⟨by simp; omega, F.trans F', ws ++ [r], by simp, by simp, ?_⟩
        intro x hx
        rcases List.mem_append.mp hx with z | z
        · exact hw x z
        · rw [List.mem_singleton.mp z]; exact pr
  · rintro g acc ⟨F, ws, rfl, hl, hw⟩
    exact K ws g hl hw F
end Law

namespace Law
open PySem Ev
theorem longer_wp {k q p : Nat} {h : Hw} {hd tn : List Int} {P : Int → Prop} {Q : W → Hw → Prop} {E : Ex → Hw → Prop} (T : Tp q p h) (h1 : hd.length ≤ 4 ∧ 0 < tn.length ∧ tn.length ≤ 4) (h2 : (∀ x ∈ hd, P x) ∧ ∀ x ∈ tn, P x)
    (K : ∀ (hd' tn' : List Int) (h' : Hw), (hd'.length ≤ 4 ∧ 0 < tn'.length ∧ tn'.length ≤ 4) → ((∀ x ∈ hd', P x) ∧ ∀ x ∈ tn', P x) → (∀ k, stp hd' tn' k = stp hd tn k) → Fr q p h h' → h'.length = h.length → Q (.tup [.tup (hd'.map W.int), .tup (tn'.map W.int)]) h') :
    wp (PhiN ds (k + 2) 13 [.ref p, .tup (hd.map W.int), .tup (tn.map W.int)] h) Q E := by
  have hp := T.lt
  refine go__law_longer ?_
  unfold s__law_longer
  simp! only []
  refine draw2 (T.app _) (by omega) fun r g1 a b F L => ?_
  have F1 : Fr q p h g1 := ((Fr.refl T).app _).trans F
  have L1 : g1.length = h.length + 2 := by rw [L]; simp
  have e1 : lstAt g1 h.length = some (hd.map W.int) := by rw [F.lst (by simp) (by omega)]; simp [lstAt_al, lstAt_e, lstAt_z]
  have e2 : lstAt g1 (h.length + 1) = some (tn.map W.int) := by rw [F.lst (by simp) (by omega), lstAt_ar (by simp)]; simp [lstAt_z, lstAt_s]
  simp! only []
  refine ⟨by omega, ?_⟩
  refine wps_rng (fun i ρ g => ∃ (hd' tn' : List Int) (b : Nat) (x : Option W), ρ = [some (.ref p), some (.ref h.length), some (.ref b), x] ∧ Fr q p h g ∧ h.length < b ∧ lstAt g h.length = some (hd'.map W.int) ∧ lstAt g b = some (tn'.map W.int) ∧ (hd'.length ≤ 4 ∧ 0 < tn'.length ∧ tn'.length ≤ 4) ∧ ((∀ x ∈ hd', P x) ∧ ∀ x ∈ tn', P x) ∧ (∀ k, stp hd' tn' k = stp hd tn k)) ?_ ⟨hd, tn, h.length + 1, none, by simp, F1, by omega, e1, e2, h1, h2, fun _ => rfl⟩ ?_
  · rintro i ρ g hi ⟨hd', tn', b, x, rfl, F, hb, e1, e2, hl, hx, hs⟩
    have hb2 := lstAt_lt e2
    have ha2 := lstAt_lt e1
    simp! only [b__law_longer_1, e1]
    refine br_intro (fun hk => ?_) (fun hk => ?_)
    · match tn', hl with
      | t :: r, hl =>
        simp! only [e1, e2, List.map_cons, cut_drop, cut_take, List.drop_succ_cons, List.drop_zero, List.take_succ_cons, List.take_zero]
        simp only [List.length_cons] at hl
        refine ⟨by omega, by omega, hd' ++ [t], r ++ [t], g.length + 2, _, rfl, (F.put (Nat.le_refl _) T).app _, by omega, by simp, ?_, ⟨by simp; omega, by simp, by simp; omega⟩, ⟨fun x hx' => ?_, fun x hx' => ?_⟩, fun k => (stp_rot hd' r t k).trans (hs k)⟩
        · simp! only [List.map_append, List.map_cons, List.map_nil]
        · rcases List.mem_append.mp hx' with z | z
          · exact hx.1 x z
          · rw [List.mem_singleton.mp z]; exact hx.2 t (by simp)
        · rcases List.mem_append.mp hx' with z | z
          · exact hx.2 x (by simp [z])
          · rw [List.mem_singleton.mp z]; exact hx.2 t (by simp)
    · simp! only []
      exact ⟨hd', tn', b, _, rfl, F, hb, e1, e2, hl, hx, hs⟩
  · rintro ρ g ⟨hd', tn', b, x, rfl, F, hb, e1, e2, hl, hx, hs⟩
    have hb2 := lstAt_lt e2
    have ha2 := lstAt_lt e1
    have hp2 := F.tp.lt
    simp! only [e1, e2]
    refine draw2 (F.tp.app _) (by omega) fun r2 g2 a2 b2 F2 L2 => ?_
    have e3 : lstAt g2 g.length = some [.int 1, .int (4 / (tn'.length : Int))] := by rw [F2.lst (by simp) (by omega)]; simp [lstAt_e, lstAt_z]
    have e4 : lstAt g2 b = some (tn'.map W.int) := by rw [F2.lst (by simp; omega) ?_, lstAt_al hb2, e2]; intro z; subst z; have := T.lt; omega
    have L3 : g2.length = g.length + 1 := by rw [L2]; simp
    simp! only [e3]
    have hq : 4 / (tn'.length : Int) * tn'.length ≤ 4 ∧ 1 ≤ 4 / (tn'.length : Int) := by
      have : tn'.length = 1 ∨ tn'.length = 2 ∨ tn'.length = 3 ∨ tn'.length = 4 := by omega
      rcases this with z | z | z | z <;> rw [z] <;> decide
    refine wo_pick [1, 4 / (tn'.length : Int)] (fun c => 1 ≤ c ∧ c * tn'.length ≤ 4) (by simp; omega) (by simp; omega) fun c hc => ?_
    obtain ⟨n, rfl⟩ : ∃ n : Nat, c = n := ⟨c.toNat, by omega⟩
    have hn : n * tn'.length ≤ 4 := by have := hc.2; rw [← Int.natCast_mul] at this; omega
    have hn2 : n ≤ 4 := Nat.le_trans (Nat.le_mul_of_pos_right n hl.2.1) hn
    simp! only [e4, rep_map]
    refine ⟨⟨by rw [Nat.mul_comm]; omega, by omega, by omega⟩, ?_⟩
    have e5 : lstAt g2 h.length = some (hd'.map W.int) := by rw [F2.lst (by simp; omega) (by omega), lstAt_al ha2, e1]
    have F3 : Fr q p h g2 := (F.app _).trans F2
    have hm0 : 0 < n := by omega
    refine tidy_fr (F3.app _) T rt_blw fun g4 F4 L4 => ?_
    refine K hd' _ g4 ⟨hl.1, by rw [rep_len]; exact Nat.mul_pos hm0 hl.2.1, by rw [rep_len]; exact hn⟩ ⟨hx.1, fun x hx' => ?_⟩ (fun j => (stp_rep hd' tn' n j hm0 hl.2.1).trans (hs j)) F4 L4
    obtain ⟨l, hl1, hl2⟩ := List.mem_flatten.mp hx'
    rw [List.eq_of_mem_replicate hl1] at hl2
    exact hx.2 x hl2
end Law

namespace Law
open PySem Ev
theorem rise_wp {k q p : Nat} {h : Hw} {m : Int} {Q : W → Hw → Prop} {E : Ex → Hw → Prop} (T : Tp q p h) (hm : 0 ≤ m ∧ m < 1000000) (K : ∀ (r : Int) (h' : Hw), 0 ≤ r → r ≤ m → Fr q p h h' → h'.length = h.length → Q (.int r) h') : wp (PhiN ds (k + 2) 12 [.ref p, .int m] h) Q E := by
  refine go__law_rise ?_
  unfold s__law_rise
  simp! only []
  refine draw2 T (by omega) fun r h1 a b F L => ?_
  simp! only []
  refine br_intro (fun hk => ?_) (fun hk => ?_)
  · simp! only []
    refine wo_pick [0, 0, 0, 1, 1, 2] (fun c => 0 ≤ c) (by simp; omega) (by simp) fun c hc => ?_
    simp! only []
    exact tidy_fr (F.app _) T blw_int fun g F' L' => K _ _ (by omega) (by omega) F' L'
  · simp! only []
    refine draw2 F.tp (by omega) fun r' h2 a' b' F2 L2 => ?_
    simp! only []
    exact tidy_fr (F.trans F2) T blw_int fun g F' L' => K _ _ (by omega) (by omega) F' L'
theorem rises_wp {k q p : Nat} {h : Hw} {m : Int} {n : Nat} {ρ : En} {elt : IE} {own : List Nat} {v : Nat} {Q : List W → Hw → Prop} {E : Ex → Hw → Prop} (T : Tp q p h) (hm : 0 ≤ m ∧ m < 1000000) (hn : n ≤ 4)
    (he : ∀ (i : Nat) (ρ' : En), asg (.var v) (.int (0 + (i : Int))) (wipe ρ own) = some ρ' → ∀ (h : Hw) (Q : W → Hw → Prop), wp (PhiN ds (k + 2) 12 [.ref p, .int m] h) Q noE → wp (evE (PhiN ds (k + 2)) elt ρ' h) Q noE)
    (K : ∀ (ns : List Int) (h' : Hw), ns.length = n → (∀ x ∈ ns, 0 ≤ x ∧ x ≤ m) → Fr q p h h' → h'.length = h.length → Q (ns.map W.int) h') :
    wp (compL (.var v) [] (fun ρ h => evTs (PhiN ds (k + 2)) .nil ρ h) (fun ρ h => evE (PhiN ds (k + 2)) elt ρ h) own ρ (rng 0 n) h []) Q E := by
  refine wp_compR (fun i g acc => Fr q p h g ∧ g.length = h.length ∧ ∃ ws : List Int, acc = ws.map W.int ∧ ws.length = i ∧ ∀ x ∈ ws, 0 ≤ x ∧ x ≤ m) ?_ ⟨Fr.refl T, rfl, [], rfl, rfl, by simp⟩ ?_
  · rintro i g acc hi ⟨F, L, ws, rfl, rfl, hw⟩
    rw [asg_var, wo_some, wp_tsn, br_t]
    refine he _ _ asg_var g _ ?_
    refine rise_wp F.tp hm fun r g' h1 h2 F' L' => ?_
    refine ⟨by simp; omega, F.trans F', by omega, ws ++ [r], by simp, by simp, ?_⟩
    intro x hx
    rcases List.mem_append.mp hx with z | z
    · exact hw x z
    · rw [List.mem_singleton.mp z]; omega
  · rintro g acc ⟨F, L, ws, rfl, hl, hw⟩
    exact K ws g hl hw F L
theorem curve_wp {k q p : Nat} {h : Hw} {f m : Int} {Q : W → Hw → Prop} {E : Ex → Hw → Prop} (T : Tp q p h) (hf : 0 ≤ f ∧ f < 1000000) (hm : 0 ≤ m ∧ m < 1000000)
    (K : ∀ (i : Int) (hd tn : List Int) (h' : Hw), 0 ≤ i ∧ i ≤ f → (hd.length ≤ 4 ∧ 0 < tn.length ∧ tn.length ≤ 4) → ((∀ x ∈ hd, 0 ≤ x ∧ x ≤ m) ∧ ∀ x ∈ tn, 0 ≤ x ∧ x ≤ m) → Fr q p h h' → h'.length = h.length → Q (cv i hd tn) h') :
    wp (PhiN ds (k + 3) 14 [.ref p, .int f, .int m] h) Q E := by
  have hp := T.lt
  refine go__law_curve ?_
  unfold s__law_curve
  simp! only []
  refine draw2 T (by omega) fun r1 g1 a1 b1 F1 L1 => ?_
  simp! only []
  refine draw2 (F1.tp.app _) (by omega) fun r2 g2 a2 b2 F2 L2 => ?_
  have e1 : lstAt g2 g1.length = some [.int 0, .int 0, .int 1, .int r1] := by rw [F2.lst (by simp) (by omega)]; simp [lstAt_e, lstAt_z]
  have L2' : g2.length = g1.length + 1 := by rw [L2]; simp
  simp! only [e1]
  refine wo_pick [0, 0, 1, r1] (fun c => 0 ≤ c) (by simp; omega) (by simp; omega) fun c hc => ?_
  simp! only []
  have F2' : Fr q p h g2 := (F1.app _).trans F2
  refine draw2 (F2.tp.app _) (by omega) fun r3 g3 a3 b3 F3 L3 => ?_
  have e3 : lstAt g3 g2.length = some [.int 0, .int 0, .int 1, .int 2, .int 3, .int 4] := by rw [F3.lst (by simp) (by omega)]; simp [lstAt_e, lstAt_z]
  have L3' : g3.length = g2.length + 1 := by rw [L3]; simp
  simp! only [e3]
  refine wo_pick [0, 0, 1, 2, 3, 4] (fun c => 0 ≤ c ∧ c ≤ 4) (by simp; omega) (by simp) fun n hn => ?_
  simp! only []
  refine ⟨by omega, ?_⟩
  have F3' : Fr q p h g3 := (F2'.app _).trans F3
  refine rises_wp F3.tp hm (by omega) (fun i ρ' e g Q w => ?_) fun hd g4 hl4 hb4 F4 L4 => ?_
  · simp! only [wipe] at e
    cases e
    simp! only [c__law_curve_1]
    exact w
  simp! only []
  refine draw2 F4.tp (by omega) fun r5 g5 a5 b5 F5 L5 => ?_
  simp! only []
  refine ⟨by omega, ?_⟩
  refine rises_wp F5.tp hm (by omega) (fun i ρ' e g Q w => ?_) fun tn g6 hl6 hb6 F6 L6 => ?_
  · simp! only [wipe] at e
    cases e
    simp! only [c__law_curve_2]
    exact w
  simp! only []
  refine draw2 F6.tp (by omega) fun r7 g7 a7 b7 F7 L7 => ?_
  simp! only []
  have F7' : Fr q p h g7 := (((F3'.trans F4).trans F5).trans F6).trans F7
  refine br_intro (fun hz => ?_) (fun hz => ?_)
  · simp! only []
    refine longer_wp F7'.tp ⟨by omega, by omega, by omega⟩ ⟨hb4, hb6⟩ fun hd' tn' g8 l8 x8 s8 F8 L8 => ?_
    simp! only []
    exact tidy_fr (F7'.trans F8) T cv_blw fun g9 F9 L9 => K _ hd' tn' g9 ⟨by omega, by omega⟩ l8 x8 F9 L9
  · simp! only []
    exact tidy_fr F7' T cv_blw fun g9 F9 L9 => K _ hd tn g9 ⟨by omega, by omega⟩ ⟨by omega, by omega, by omega⟩ ⟨hb4, hb6⟩ F9 L9
end Law

namespace Law
open PySem Ev
theorem growing_wp {k q p : Nat} {h : Hw} {f m : Int} {Q : W → Hw → Prop} {E : Ex → Hw → Prop} (T : Tp q p h) (hf : 0 ≤ f ∧ f < 1000000) (hm : 1 ≤ m ∧ m < 1000000)
    (K : ∀ (i : Int) (hd tn : List Int) (h' : Hw), 0 ≤ i ∧ i ≤ f → (hd.length ≤ 4 ∧ 0 < tn.length ∧ tn.length ≤ 4) → ((∀ x ∈ hd, 0 ≤ x ∧ x ≤ m) ∧ ∀ x ∈ tn, 0 ≤ x ∧ x ≤ m) → 0 < tn.sum → Fr q p h h' → h'.length = h.length → Q (cv i hd tn) h') :
    wp (PhiN ds (k + 4) 15 [.ref p, .int f, .int m] h) Q E := by
  have hp := T.lt
  refine go__law_growing ?_
  unfold s__law_growing
  simp! only []
  refine curve_wp T hf (by omega) fun i hd tn g1 a1 l1 x1 F1 L1 => ?_
  simp! only []
  refine br_intro (fun hz => ?_) (fun hz => ?_)
  · simp! only []
    exact tidy_fr F1 T cv_blw fun g2 F2 L2 => K i hd tn g2 a1 l1 x1 hz F2 L2
  · simp! only []
    refine draw2 (F1.tp.app _) (by omega) fun r3 g3 a3 b3 F3 L3 => ?_
    have L3' : g3.length = g1.length + 1 := by rw [L3]; simp
    have e3 : lstAt g3 g1.length = some (tn.map W.int) := by rw [F3.lst (by simp) (by omega)]; exact (lst_new rfl (Nat.le_refl _)).trans (by rw [Nat.sub_self]; rfl)
    have F3' : Fr q p h g3 := (F1.app _).trans F3
    simp! only [e3]
    refine draw2 F3.tp (by omega) fun r4 g4 a4 b4 F4 L4 => ?_
    have e4 : lstAt g4 g1.length = some (tn.map W.int) := by rw [F4.lst (by omega) (by omega), e3]
    have es : (tn.map W.int).set r4.toNat (.int (1 + r3)) = (tn.set r4.toNat (1 + r3)).map W.int := by rw [List.map_set]
    simp! only [e4, es]
    refine tidy_fr ((F3'.trans F4).put (i := g1.length) (by omega) T) T cv_blw fun g5 F5 L5 => K i hd (tn.set r4.toNat (1 + r3)) g5 a1 ⟨l1.1, by rw [List.length_set]; omega, by rw [List.length_set]; omega⟩ ⟨x1.1, set_all x1.2 (by omega)⟩ (set_pos (fun x hx => (x1.2 x hx).1) (by omega) (by omega)) F5 L5
end Law

namespace Law
open PySem Ev
/-- L x is the least point at which w is at least x -/
def Gal (w : Nat → Int) (L : Nat → Nat) : Prop := ∀ x p : Nat, L x ≤ p ↔ (x : Int) ≤ w p
def Mon (w : Nat → Int) : Prop := ∀ n, w n ≤ w (n + 1)
theorem Mon.le {w : Nat → Int} (h : Mon w) {n m : Nat} (e : n ≤ m) : w n ≤ w m := by
  obtain ⟨k, rfl⟩ := Nat.le.dest e
  clear e
  induction k with
  | zero => exact Int.le_refl _
  | succ k ih => exact Int.le_trans ih (h _)
theorem gal_ex {w : Nat → Int} (mo : Mon w) (ub : ∀ x : Nat, ∃ p, (x : Int) ≤ w p) : ∃ L, Gal w L := by
  have h : ∀ (x n : Nat), (x : Int) ≤ w n → ∃ l : Nat, ∀ p : Nat, l ≤ p ↔ (x : Int) ≤ w p := by
    intro x n
    induction n with
    | zero => exact fun e => ⟨0, fun p => ⟨fun _ => Int.le_trans e (mo.le (Nat.zero_le _)), fun _ => Nat.zero_le _⟩⟩
    | succ n ih =>
      intro e
      by_cases c : (x : Int) ≤ w n
      · exact ih c
      · refine ⟨n + 1, fun p => ⟨fun hp => Int.le_trans e (mo.le hp), fun hp => ?_⟩⟩
        refine Nat.lt_of_not_le fun z => c (Int.le_trans hp (mo.le z))
  have h2 : ∀ x : Nat, ∃ l : Nat, ∀ p : Nat, l ≤ p ↔ (x : Int) ≤ w p := fun x => by
    obtain ⟨p, hp⟩ := ub x
    exact h x p hp
  obtain ⟨L, hL⟩ := Classical.axiomOfChoice h2
  exact ⟨L, hL⟩
theorem Gal.uniq {w v : Nat → Int} {L M : Nat → Nat} (a : Gal w L) (b : Gal v M) (e : ∀ n, w n = v n) (x : Nat) : L x = M x := by
  have : w = v := funext e
  subst this
  exact Nat.le_antisymm ((a x _).mpr ((b x _).mp (Nat.le_refl _))) ((b x _).mpr ((a x _).mp (Nat.le_refl _)))
theorem Gal.zero {w : Nat → Int} {L : Nat → Nat} (g : Gal w L) (h : 0 ≤ w 0) : L 0 = 0 := Nat.le_zero.mp ((g 0 0).mpr h)
theorem Gal.at {w : Nat → Int} {L : Nat → Nat} (g : Gal w L) (x : Nat) : (x : Int) ≤ w (L x) := (g x _).mp (Nat.le_refl _)
theorem Gal.lt {w : Nat → Int} {L : Nat → Nat} (g : Gal w L) {x p : Nat} (h : p < L x) : w p < x := by
  refine Int.lt_of_not_ge fun z => ?_
  have := (g x p).mpr z
  omega
theorem Gal.mono {w : Nat → Int} {L : Nat → Nat} (g : Gal w L) {x y : Nat} (h : x ≤ y) : L x ≤ L y := (g x _).mpr (by have := g.at y; omega)
theorem Gal.mon {w : Nat → Int} {L : Nat → Nat} (g : Gal w L) : Mon (fun x => (L x : Int)) := fun n => by have := g.mono (show n ≤ n + 1 by omega); show (L n : Int) ≤ L (n + 1); omega
theorem Gal.shift {w : Nat → Int} {L : Nat → Nat} {H T S : Nat} (g : Gal w L) (mo : Mon w) (per : ∀ p, H ≤ p → w (p + T) = w p + S) {x : Nat} (hx : w H < x) : L (x + S) = L x + T := by
  have hL : H < L x := Nat.lt_of_not_le fun z => by have := (g x H).mp z; omega
  refine Nat.le_antisymm ((g _ _).mpr ?_) ?_
  · rw [per _ (by omega)]
    have := g.at x
    omega
  · refine Nat.le_of_not_lt fun z => ?_
    have e := g.at (x + S)
    generalize L (x + S) = q at z e
    by_cases c : H + T ≤ q
    · have e2 := per (q - T) (by omega)
      rw [show q - T + T = q by omega] at e2
      have := (g x (q - T)).mpr (by omega)
      omega
    · have e2 := per H (Nat.le_refl _)
      have := mo.le (show q ≤ H + T by omega)
      omega
/-- the increments of L repeat -/
theorem Gal.per {w : Nat → Int} {L : Nat → Nat} {H T S : Nat} (g : Gal w L) (mo : Mon w) (per : ∀ p, H ≤ p → w (p + T) = w p + S) {n : Nat} (hn : w H < n) : Per (fun x => (L (x + 1) : Int) - L x) S n := fun k hk => by
  have e1 := g.shift mo per (x := k) (by omega)
  have e2 := g.shift mo per (x := k + 1) (by omega)
  show (L (k + S + 1) : Int) - L (k + S) = L (k + 1) - L k
  rw [show k + S + 1 = k + 1 + S by omega, e1, e2]
  omega
/-- the step is bounded -/
theorem Gal.step {w : Nat → Int} {L : Nat → Nat} {H T S : Nat} (g : Gal w L) (mo : Mon w) (per : ∀ p, H ≤ p → w (p + T) = w p + S) (hS : 0 < S) (x : Nat) : L (x + 1) ≤ L x + H + T := by
  refine (g _ _).mpr ?_
  have e1 := g.at x
  have e2 := per (L x + H) (by omega)
  have := mo.le (show L x ≤ L x + H by omega)
  omega
/-- the greatest point at which w is at most x, 0 if there is none -/
def upF (L : Nat → Nat) (x : Nat) : Nat := L (x + 1) - 1
theorem upF_iff {w : Nat → Int} {L : Nat → Nat} (g : Gal w L) (x p : Nat) : p ≤ upF L x ↔ p = 0 ∨ w p ≤ x := by
  unfold upF
  have := g (x + 1) p
  constructor
  · intro h
    by_cases c : p = 0
    · exact .inl c
    · refine .inr ?_
      have : ¬ L (x + 1) ≤ p := by omega
      have := mt (g (x + 1) p).mpr this
      omega
  · rintro (h | h)
    · omega
    · have : ¬ L (x + 1) ≤ p := fun z => by have := (g (x + 1) p).mp z; omega
      omega
theorem upF_mono {w : Nat → Int} {L : Nat → Nat} (g : Gal w L) {x y : Nat} (h : x ≤ y) : upF L x ≤ upF L y := by
  unfold upF
  have := g.mono (show x + 1 ≤ y + 1 by omega)
  omega
theorem upF_per {w : Nat → Int} {L : Nat → Nat} {H T S : Nat} (g : Gal w L) (mo : Mon w) (per : ∀ p, H ≤ p → w (p + T) = w p + S) {n : Nat} (hn : w H ≤ n) : Per (fun x => (upF L (x + 1) : Int) - upF L x) S n := fun k hk => by
  have p1 : ∀ x : Nat, w H < x → 0 < L x := fun x hx => by
    refine Nat.pos_of_ne_zero fun z => ?_
    have e := g.at x
    rw [z] at e
    have := mo.le (Nat.zero_le H)
    omega
  have e1 := g.shift mo per (x := k + 1) (by omega)
  have e2 := g.shift mo per (x := k + 1 + 1) (by omega)
  have q1 := p1 (k + 1) (by omega)
  have q2 := p1 (k + 1 + 1) (by omega)
  show (upF L (k + S + 1) : Int) - upF L (k + S) = upF L (k + 1) - upF L k
  unfold upF
  rw [show k + S + 1 + 1 = k + 1 + 1 + S by omega, show k + S + 1 = k + 1 + S by omega, e1, e2]
  omega
/-- the upper inverse of the lower inverse -/
theorem up_low {w : Nat → Int} {L M : Nat → Nat} (g : Gal w L) (mo : Mon w) (h0 : 0 ≤ w 0) (g2 : Gal (fun x => (L x : Int)) M) (x : Nat) : (upF M x : Int) = w x := by
  have nn := mo.le (Nat.zero_le x)
  obtain ⟨v, hv⟩ : ∃ v : Nat, (v : Int) = w x := ⟨(w x).toNat, by omega⟩
  rw [← hv]
  congr 1
  refine Nat.le_antisymm ?_ ((upF_iff g2 x v).mpr (.inr ?_))
  · have := (upF_iff g2 x (upF M x)).mp (Nat.le_refl _)
    rcases this with z | z
    · omega
    · have := (g (upF M x) x).mp (by simpa using z)
      omega
  · have := (g v x).mpr (by omega)
    show (L v : Int) ≤ x
    omega
/-- the lower inverse of the upper inverse -/
theorem low_up {w : Nat → Int} {L M : Nat → Nat} (g : Gal w L) (g2 : Gal (fun x => (upF L x : Int)) M) (x : Nat) : M 0 = 0 ∧ (0 ≤ w (x + 1) → (M (x + 1) : Int) = w (x + 1)) := by
  refine ⟨g2.zero (by omega), fun h => ?_⟩
  obtain ⟨v, hv⟩ : ∃ v : Nat, (v : Int) = w (x + 1) := ⟨(w (x + 1)).toNat, by omega⟩
  rw [← hv]
  congr 1
  have a : ∀ p : Nat, M (x + 1) ≤ p ↔ v ≤ p := fun p => by
    rw [g2 (x + 1) p]
    show ((x + 1 : Nat) : Int) ≤ (upF L p : Int) ↔ v ≤ p
    have := upF_iff g p (x + 1)
    constructor
    · intro z
      have := this.mp (by simpa using (show x + 1 ≤ upF L p by omega))
      omega
    · intro z
      have := this.mpr (.inr (by omega))
      omega
  exact Nat.le_antisymm ((a v).mpr (Nat.le_refl _)) ((a _).mp (Nat.le_refl _))
/-- w is bounded above by v exactly if the inverses are the other way round -/
theorem gal_le {w v : Nat → Int} {L M : Nat → Nat} (g : Gal w L) (h : Gal v M) (n0 : ∀ n, 0 ≤ w n) : (∀ p, w p ≤ v p) ↔ ∀ x, M x ≤ L x := by
  constructor
  · intro a x
    have := g.at x
    have := a (L x)
    exact (h x _).mpr (by omega)
  · intro a p
    obtain ⟨y, hy⟩ : ∃ y : Nat, (y : Int) = w p := ⟨(w p).toNat, by have := n0 p; omega⟩
    have e1 := (g y p).mpr (by omega)
    have e2 := a y
    have := (h y p).mp (by omega)
    omega
end Law

namespace Law
open PySem Ev
theorem least_ok {k : Nat} {h : Hw} {i x : Int} {hd tn : List Int} (hu : ∀ k, 0 ≤ stp hd tn k) (hS : 0 < tn.sum ∧ tn.sum < 1000000000) (hL : tn.length < 1000000) :
    ∃ n : Nat, Least i (stp hd tn) x n ∧ PhiN ds (k + 1) 0 [cv i hd tn, .int x] h = .ok (.int n) h := by
  suffices hs : wp (PhiN ds (k + 1) 0 [cv i hd tn, .int x] h) (fun w g => g = h ∧ ∃ n : Nat, w = .int n ∧ Least i (stp hd tn) x n) noE by
    cases e : PhiN ds (k + 1) 0 [cv i hd tn, .int x] h with
    | ok w g =>
      rw [e] at hs
      obtain ⟨rfl, n, rfl, a⟩ := hs
      exact ⟨n, a, rfl⟩
    | exc _ _ => rw [e] at hs; exact hs.elim
    | err => rw [e] at hs; exact hs.elim
  refine go_least_point ?_
  unfold s_least_point
  simp! only []
  refine br_intro (fun hz => ?_) (fun hz => ?_)
  · simp! only []
    rw [tidy_one (Old.refl h) blw_int]
    exact ⟨rfl, 0, rfl, Least.zero (by omega)⟩
  simp! only []
  refine wps_for W.int hd (fun pre ρ g => g = h ∧ ∃ (pt lv : Int) (x3 : Option W), ρ = [some (cv i hd tn), some (.int x), some (.int pt), x3, none, some (.int lv), some (.tup (hd.map W.int)), some (.tup (tn.map W.int))] ∧ pt = pre.length ∧ lv = i + pre.sum ∧ lv < x) (fun _ _ _ _ => guOk_nil) ?_ ⟨rfl, _, _, _, rfl, by simp, by simp, by omega⟩ ?_
  · rintro pre a suf ρ g e ⟨rfl, pt, lv, x3, rfl, e1, e2, e3⟩
    simp! only [b_least_point_1]
    refine br_intro (fun hq => ?_) (fun hq => ?_)
    · simp! only []
      rw [tidy_one (Old.refl g) blw_int]
      refine ⟨rfl, pre.length + 1, by simp; omega, ?_⟩
      have f1 : psum (stp hd tn) pre.length = pre.sum := by rw [e]; exact psum_pre
      have f2 : psum (stp hd tn) (pre.length + 1) = pre.sum + a := by
        have := psum_pre (pre := pre ++ [a]) (suf := suf) (tn := tn)
        rw [e]; simpa using this
      exact Least.succ hu (by omega) (by omega)
    · simp! only []
      refine ⟨_, _, _, rfl, ?_, ?_, ?_⟩ <;> first | omega | (simp; omega)
  · rintro ρ g ⟨rfl, pt, lv, x3, rfl, e1, e2, e3⟩
    obtain ⟨q, eq, q1, q2⟩ := quo_bd hS.1 (show 0 ≤ x - lv - 1 by omega)
    simp! only [eq]
    refine wps_for W.int tn (fun pre ρ g' => g' = g ∧ ∃ (pt lv : Int) (x3 x4 : Option W), ρ = [some (cv i hd tn), some (.int x), some (.int pt), x3, x4, some (.int lv), some (.tup (hd.map W.int)), some (.tup (tn.map W.int))] ∧ pt = hd.length + (q * tn.length + pre.length) ∧ lv = i + hd.sum + q * tn.sum + pre.sum ∧ lv < x) (fun _ _ _ _ => guOk_nil) ?_ ?_ ?_
    rotate_left
    · refine ⟨rfl, _, _, _, _, rfl, ?_, ?_, ?_⟩ <;> first | omega | (simp; omega)
    rotate_left
    · rintro pre a suf ρ g' e ⟨rfl, pt', lv', x3, x4, rfl, e1', e2', e3'⟩
      simp! only [b_least_point_2]
      refine br_intro (fun hq => ?_) (fun hq => ?_)
      · simp! only []
        rw [tidy_one (Old.refl g') blw_int]
        refine ⟨rfl, hd.length + (q * tn.length + pre.length) + 1, ?_, ?_⟩
        · simp; omega
        have f1 : psum (stp hd tn) (hd.length + (q * tn.length + pre.length)) = hd.sum + q * tn.sum + pre.sum := by rw [e]; exact psum_mid
        have f2 : psum (stp hd tn) (hd.length + (q * tn.length + pre.length) + 1) = hd.sum + q * tn.sum + (pre.sum + a) := by
          have := psum_mid (hd := hd) (pre := pre ++ [a]) (suf := suf) (q := q)
          rw [e]
          simpa [Nat.add_assoc] using this
        exact Least.succ hu (by omega) (by omega)
      · simp! only []
        refine ⟨_, _, _, _, rfl, ?_, ?_, ?_⟩ <;> first | omega | (simp; omega)
    · rintro ρ g' ⟨rfl, pt', lv', x3, x4, rfl, e1', e2', e3'⟩
      exfalso
      omega
end Law

namespace Law
open PySem Ev
theorem at_ok {k : Nat} {h : Hw} {i x : Int} {hd tn : List Int} (h1 : 0 < tn.length ∧ tn.length < 1000000) (h2 : -1000000000 < tn.sum ∧ tn.sum < 1000000000) (hx : 0 ≤ x) :
    PhiN ds (k + 1) 11 [cv i hd tn, .int x] h = .ok (.int (val i hd tn x)) h := by
  refine wp_run (go__law_at ?_)
  unfold s__law_at
  have hm := Int.emod_nonneg (x - hd.length) (show (tn.length : Int) ≠ 0 by omega)
  simp! only []
  refine br_intro (fun hz => ?_) (fun hz => ?_)
  · simp! only [cut_take, take_map]
    rw [tidy_one (Old.refl h) blw_int]
    refine ⟨?_, rfl⟩
    unfold val; rw [if_pos hz]
  · simp! only [cut_take, take_map]
    rw [tidy_one (Old.refl h) blw_int]
    refine ⟨?_, rfl⟩
    unfold val; rw [if_neg hz]
end Law

namespace Law
open PySem Ev
theorem unb_ok {k : Nat} {i : Int} {hd tn : List Int} (h : Hw) : PhiN ds (k + 1) 2 [cv i hd tn] h = .ok (.bl (decide (0 < tn.sum))) h := by
  refine wp_run (go_is_unbounded ?_)
  unfold s_is_unbounded
  simp! only []
  rw [tidy_one (Old.refl h) blw_bl]
  exact ⟨rfl, rfl⟩
end Law

namespace Law
open PySem Ev
theorem _root_.Ev.Cu.mon {H P : Nat} {b : Int} {w : Nat → Int} {c : Cv} (o : Cu H P b w c) : Mon w := fun n => by have := o.b.2.2 n; omega
theorem _root_.Ev.Cu.nn0 {H P : Nat} {b : Int} {w : Nat → Int} {c : Cv} (o : Cu H P b w c) (n : Nat) : 0 ≤ w n := (o.le n).1
theorem _root_.Ev.Cu.shift {H P : Nat} {b : Int} {w : Nat → Int} {c : Cv} (o : Cu H P b w c) {S : Nat} (hS : c.2.2.sum = S) : ∀ p, c.2.1.length ≤ p → w (p + c.2.2.length) = w p + S := fun p hp => by
  have e1 := psum_per (hd := c.2.1) (tn := c.2.2) o.l.2.1 hp
  have e2 : psum (stp c.2.1 c.2.2) (p + c.2.2.length) = w (p + c.2.2.length) - c.1 := by have := o.v (p + c.2.2.length); unfold VC stC at this; omega
  have e3 : psum (stp c.2.1 c.2.2) p = w p - c.1 := by have := o.v p; unfold VC stC at this; omega
  omega
theorem _root_.Ev.Cu.ub {H P : Nat} {b : Int} {w : Nat → Int} {c : Cv} (o : Cu H P b w c) (hs : 0 < c.2.2.sum) : ∀ x : Nat, ∃ p, (x : Int) ≤ w p := fun x => by
  obtain ⟨S, hS⟩ : ∃ S : Nat, c.2.2.sum = S := ⟨c.2.2.sum.toNat, by omega⟩
  induction x with
  | zero => exact ⟨0, by have := o.nn0 0; simpa using this⟩
  | succ x ih =>
    obtain ⟨p, hp⟩ := ih
    refine ⟨p + c.2.1.length + c.2.2.length, ?_⟩
    have := o.shift hS (p + c.2.1.length) (by omega)
    have := o.mon.le (show p ≤ p + c.2.1.length by omega)
    omega
theorem _root_.Ev.Cu.gal {H P : Nat} {b : Int} {w : Nat → Int} {c : Cv} (o : Cu H P b w c) (hs : 0 < c.2.2.sum) : ∃ L, Gal w L := gal_ex o.mon (o.ub hs)
theorem check_ok {k : Nat} {h : Hw} {c : Cv} (hs : 0 < c.2.2.sum) : PhiN ds (k + 2) 5 [cvW c] h = .ok .non h := by
  refine wp_run (go__check_unbounded ?_)
  unfold s__check_unbounded
  have ew : cvW c = cv c.1 c.2.1 c.2.2 := rfl
  have e1 : decide (0 < c.2.2.sum) = true := decide_eq_true hs
  simp! only [ew]
  rw [unb_ok, wp_ok, e1]
  simp! only []
  rw [tidy_one (Old.refl h) blw_non]
  exact ⟨rfl, rfl⟩
theorem _root_.Ev.Cu.pos {H P : Nat} {b : Int} {w : Nat → Int} {c : Cv} {L : Nat → Nat} (o : Cu H P b w c) (g : Gal w L) : 0 < c.2.2.sum := by
  rcases Int.lt_or_le 0 c.2.2.sum with z | z
  · exact z
  · exfalso
    have s0 := (sum_bd b c.2.2 o.x.2).1
    have sh := o.shift (S := 0) (by omega)
    have key : ∀ m, w (c.2.1.length + m * c.2.2.length) = w c.2.1.length := fun m => by
      induction m with
      | zero => simp
      | succ m ih =>
        have := sh (c.2.1.length + m * c.2.2.length) (by omega)
        rw [Nat.add_mul, Nat.one_mul, ← Nat.add_assoc, this, ih]; simp
    obtain ⟨v, hv⟩ : ∃ v : Nat, (v : Int) = w c.2.1.length := ⟨(w c.2.1.length).toNat, by have := o.nn0 c.2.1.length; omega⟩
    have e := g.at (v + 1)
    have l1 : L (v + 1) ≤ L (v + 1) * c.2.2.length := Nat.le_mul_of_pos_right _ o.l.2.1
    have := o.mon.le (show L (v + 1) ≤ c.2.1.length + L (v + 1) * c.2.2.length by omega)
    rw [key] at this
    omega
theorem least_gal {H P : Nat} {b : Int} {w : Nat → Int} {c : Cv} {L : Nat → Nat} (o : Cu H P b w c) (g : Gal w L) {x n : Nat} (l : Least c.1 (stp c.2.1 c.2.2) x n) : n = L x := by
  have e : ∀ m, c.1 + psum (stp c.2.1 c.2.2) m = w m := fun m => o.v m
  refine Nat.le_antisymm ?_ ((g x n).mpr (by have := l.ge; rw [e] at this; exact this))
  refine Nat.le_of_not_lt fun z => ?_
  have := l.lt _ z
  rw [e] at this
  have := g.at x
  omega
theorem lowat_ok {k : Nat} {h : Hw} {H P : Nat} {b : Int} {w : Nat → Int} {c : Cv} {L : Nat → Nat} (o : Cu H P b w c) (g : Gal w L) (hP : 0 < P ∧ P ≤ 1000) (hb : b ≤ 100000) (x : Nat) : PhiN ds (k + 3) 3 [cvW c, .int x] h = .ok (.int (L x)) h := by
  have hs := o.pos g
  have l := o.l
  have lp := o.lp hP.1
  have s := o.s hP.1
  have : (P : Int) * b ≤ 1000 * 100000 := Int.mul_le_mul (by omega) hb o.nn (by decide)
  obtain ⟨n, Ln, e⟩ := least_ok (k := k + 1) (h := h) (i := c.1) (x := (x : Int)) (hd := c.2.1) (tn := c.2.2) (fun k => by have := o.u k; have := o.b.2.2 k; unfold stC at *; omega) (by omega) (by omega)
  obtain rfl := least_gal o g Ln
  generalize w1 : cvW c = wc
  refine wp_run (go_lower_at ?_)
  subst w1
  unfold s_lower_at
  simp! only []
  rw [check_ok hs, wp_ok]
  simp! only []
  refine wp_eq e ?_
  simp! only []
  rw [tidy_one (Old.refl h) blw_int]
  exact ⟨rfl, rfl⟩
theorem upat_ok {k : Nat} {h : Hw} {H P : Nat} {b : Int} {w : Nat → Int} {c : Cv} {L : Nat → Nat} (o : Cu H P b w c) (g : Gal w L) (hP : 0 < P ∧ P ≤ 1000) (hb : b ≤ 100000) (x : Nat) : PhiN ds (k + 3) 4 [cvW c, .int x] h = .ok (if (x : Int) < w 0 then .non else .int (upF L x)) h := by
  have hs := o.pos g
  have l := o.l
  have lp := o.lp hP.1
  have s := o.s hP.1
  have : (P : Int) * b ≤ 1000 * 100000 := Int.mul_le_mul (by omega) hb o.nn (by decide)
  have sq0 : ∀ g : Hw, seqOf g (cvW c) = some [.int c.1, .tup (c.2.1.map W.int), .tup (c.2.2.map W.int)] := fun _ => rfl
  obtain ⟨n, Ln, e⟩ := least_ok (k := k) (h := h) (i := c.1) (x := ((x + 1 : Nat) : Int)) (hd := c.2.1) (tn := c.2.2) (fun k => by have := o.u k; have := o.b.2.2 k; unfold stC at *; omega) (by omega) (by omega)
  obtain rfl := least_gal o g Ln
  generalize w1 : cvW c = wc
  refine wp_run (go_upper_at ?_)
  subst w1
  unfold s_upper_at
  simp! only []
  rw [check_ok hs, wp_ok]
  simp! only [sq0, o.i]
  refine br_intro (fun hz => ?_) (fun hz => ?_)
  · simp! only []
    rw [tidy_one (Old.refl h) blw_non]
    exact ⟨by rw [if_pos hz], rfl⟩
  · have p1 : 0 < L (x + 1) := Nat.pos_of_ne_zero fun z => by
      have := g.at (x + 1)
      rw [z] at this
      omega
    have eg : PhiN ds (k + 2) 1 [cvW c, .int x] h = .ok (.int (upF L x)) h := by
      generalize w1 : cvW c = wc
      refine wp_run (go_greatest_point ?_)
      subst w1
      unfold s_greatest_point
      have ei : (x : Int) + 1 = ((x + 1 : Nat) : Int) := by omega
      try simp -implicitDefEqProofs -dsimp (disch := first | omega | (simp only [List.length_set, List.length_append, List.length_cons, List.length_nil, List.length_map]; omega)) only [↓wp_lck, ↓wp_chn, ↓wp_idk, ↓wp_idi, ↓ws_lckS, ↓mt_ins, ↓mt_rem, ↓mt_cnt, ↓dkV_ref, ↓diV_ref, ↓uq_n, ↓uq_b, ↓uq_c, ↓uq_r, ↓uq_z, ↓wp_ok, ↓wp_err, ↓wp_exc, ↓wp_bind, ↓wp_var, ↓wp_cst, ↓wp_bin, ↓wp_neg, ↓wp_cmp, ↓wp_and, ↓wp_or, ↓wp_not, ↓wp_ite, ↓wp_tup, ↓wp_lst, ↓wp_idx, ↓wp_slc, ↓wp_call, ↓wp_bi, ↓wp_bl, ↓wp_mt, ↓wp_mk, ↓wp_lr1, ↓wp_lr2, ↓wp_aa, ↓wp_tr2, ↓wp_maxD, ↓wp_srt, ↓wp_glc, ↓wp_rgN, ↓wp_srtD, ↓wp_lc2, ↓wp_i3, ↓wp_ir, ↓mt_rev, ↓wp_iv, ↓mt_pp, ↓mt_ppA, ↓wp_esn, ↓wp_esc, ↓wp_pn, ↓wp_pa, ↓wp_tv, ↓wp_ta, ↓wp_to, ↓wp_tn, ↓wp_lo, ↓wp_ld, ↓wp_lc, ↓wp_tsn, ↓wp_tsc, ↓wp_io, ↓wp_i1, ↓wp_i2, ↓wp_iz, ↓wp_ie, ↓wo_some, ↓wo_none, ↓br_t, ↓br_f, ↓wps_ok, ↓wps_st, ↓wb_add, ↓wb_sub, ↓wb_mulR, ↓wb_mulL, ↓wb_div, ↓wb_mod, ↓wb_pow, ↓wb_addT, ↓wb_mulT, ↓wb_addL, ↓wb_mulLs, ↓wn_neg, ↓wc_eq, ↓wc_ne, ↓wc_lt, ↓wc_le, ↓wc_gt, ↓wc_ge, ↓wc_in, ↓wc_nin, ↓wc_isN, ↓wc_notN, ↓item_int, ↓sl_tup, ↓sl_ref, ↓bi_len, ↓bi_abs, ↓bi_int, ↓bi_intb, ↓bi_isI, ↓bi_max, ↓bi_min, ↓bi_divmod, ↓bi_lcm, ↓bi_gcd, ↓bl_sum, ↓bl_tuple, ↓bl_list, ↓bl_len, ↓bl_max, ↓bl_min, ↓mt_app, ↓mt_ext, ↓mt_extT, ↓mt_ix, ↓setIt_ref, ↓ws_n, ↓ws_c, ↓ws_expr, ↓ws_asg, ↓ws_set, ↓ws_aug, ↓ws_augS, ↓ws_bad, ↓ws_if, ↓ws_for, ↓ws_whl, ↓ws_ret, ↓ws_retN, ↓ws_brk, ↓ws_cont, ↓ws_pass, ↓sq_n, ↓sq_b, ↓sq_c, ↓sq_r, ↓sq_z, ↓fin_ret, ↓fin_next, ↓fin_rz, ↓ws_rz, ↓ws_try, ↓ws_tryA, ↓tqa_n, ↓tqa_b, ↓tqa_c, ↓tqa_r, ↓tqa_zi, ↓ws_dset, ↓ws_daug, ↓dputV_ref, ↓wp_dnew, ↓wp_dget, ↓wp_din, ↓dgetV_ref, ↓dinV_ref, ↓wp_dgt, ↓dgtV_ref, ↓wp_dst, ↓dstV_ref, ↓wp_dmk, ↓wp_dcp, ↓wp_ddl, ↓wp_dcm, ↓wp_dvm, ↓wp_dsr, ↓wp_trv, ↓wp_tix, ↓wp_irv, ↓tq_n, ↓tq_b, ↓tq_c, ↓tq_r, ↓tq_zi, ↓isTy_cv, ↓isTy_rt, ↓tr_cv, ↓tr_rt, refW_ref, blW_bl, dicLk_set, dicLk_al, dicLk_ne, dicW_ref, frW_ref, tupW_tup, dicAt_z, dicAt_s, dicAt_al, dicAt_e, dicAt_ar, dicAt_set, dicAt_ne, dicFr_z, dicFr_s, dicFr_al, dicFr_e, dicFr_ar, dicFr_set, dicFr_ne, toPr2_one, toPr2_two, look_z, look_s, rgW_rg, isNon_non, isNon_bl, isNon_int, isNon_str, isNon_tup, isNon_fl, isNon_ref, eqW_int, eqW_bl, tr_non, tr_bl, tr_int, tr_tup, ixN_in, ixN_neg, mtW_ref, seqOf_ref, seqOf_tup, seqOf_fl, seqOf_rt, seqOf_cv, isNon_rt, isNon_cv, isTup_rt, isTup_cv, guOf_rt, guOf_cv, isTy_rt, isTy_cv, cv_eq, rt_eq, asg_rt, asg_cv, asg_var, asg_tup2, asg_tup3, isTy, guOf, isTup, intW, aug_add, aug_sub, augO_a, augO_s, lstAt_z, lstAt_s, lstAt_al, lstAt_e, lstAt_ar, Nat.sub_self, Nat.add_sub_cancel_left, Nat.reduceSubDiff, List.append_assoc, lstAt_set, lstAt_ne, toInts_ints, toInts_nil, toInts_cons, toBls_nil, toBls_cons, Option.map_some, List.set_cons_succ, List.set_cons_zero, List.getElem?_cons_zero, List.getElem?_cons_succ, List.getElem_cons_zero, List.getElem_cons_succ, List.length_cons, List.length_nil, List.length_set, List.length_append, List.length_map, List.nil_append, List.cons_append, List.append_nil, List.set_set, Nat.reduceAdd, Nat.reduceLeDiff, Nat.reduceLT, Nat.reduceSub, true_and, and_true, Bool.not_true, Bool.not_false, decide_true, decide_false, Int.reduceToNat, Int.reducePow, Int.reduceNeg, Int.cast_ofNat_Int, decide_eq_true_eq, Nat.zero_add, Nat.add_zero, Int.toNat_natCast, Int.reduceLT, Int.reduceLE, Int.reduceBNe, Int.reduceEq, Nat.le_refl, ei]
      refine wp_eq e ?_
      try simp -implicitDefEqProofs -dsimp (disch := first | omega | (simp only [List.length_set, List.length_append, List.length_cons, List.length_nil, List.length_map]; omega)) only [↓wp_lck, ↓wp_chn, ↓wp_idk, ↓wp_idi, ↓ws_lckS, ↓mt_ins, ↓mt_rem, ↓mt_cnt, ↓dkV_ref, ↓diV_ref, ↓uq_n, ↓uq_b, ↓uq_c, ↓uq_r, ↓uq_z, ↓wp_ok, ↓wp_err, ↓wp_exc, ↓wp_bind, ↓wp_var, ↓wp_cst, ↓wp_bin, ↓wp_neg, ↓wp_cmp, ↓wp_and, ↓wp_or, ↓wp_not, ↓wp_ite, ↓wp_tup, ↓wp_lst, ↓wp_idx, ↓wp_slc, ↓wp_call, ↓wp_bi, ↓wp_bl, ↓wp_mt, ↓wp_mk, ↓wp_lr1, ↓wp_lr2, ↓wp_aa, ↓wp_tr2, ↓wp_maxD, ↓wp_srt, ↓wp_glc, ↓wp_rgN, ↓wp_srtD, ↓wp_lc2, ↓wp_i3, ↓wp_ir, ↓mt_rev, ↓wp_iv, ↓mt_pp, ↓mt_ppA, ↓wp_esn, ↓wp_esc, ↓wp_pn, ↓wp_pa, ↓wp_tv, ↓wp_ta, ↓wp_to, ↓wp_tn, ↓wp_lo, ↓wp_ld, ↓wp_lc, ↓wp_tsn, ↓wp_tsc, ↓wp_io, ↓wp_i1, ↓wp_i2, ↓wp_iz, ↓wp_ie, ↓wo_some, ↓wo_none, ↓br_t, ↓br_f, ↓wps_ok, ↓wps_st, ↓wb_add, ↓wb_sub, ↓wb_mulR, ↓wb_mulL, ↓wb_div, ↓wb_mod, ↓wb_pow, ↓wb_addT, ↓wb_mulT, ↓wb_addL, ↓wb_mulLs, ↓wn_neg, ↓wc_eq, ↓wc_ne, ↓wc_lt, ↓wc_le, ↓wc_gt, ↓wc_ge, ↓wc_in, ↓wc_nin, ↓wc_isN, ↓wc_notN, ↓item_int, ↓sl_tup, ↓sl_ref, ↓bi_len, ↓bi_abs, ↓bi_int, ↓bi_intb, ↓bi_isI, ↓bi_max, ↓bi_min, ↓bi_divmod, ↓bi_lcm, ↓bi_gcd, ↓bl_sum, ↓bl_tuple, ↓bl_list, ↓bl_len, ↓bl_max, ↓bl_min, ↓mt_app, ↓mt_ext, ↓mt_extT, ↓mt_ix, ↓setIt_ref, ↓ws_n, ↓ws_c, ↓ws_expr, ↓ws_asg, ↓ws_set, ↓ws_aug, ↓ws_augS, ↓ws_bad, ↓ws_if, ↓ws_for, ↓ws_whl, ↓ws_ret, ↓ws_retN, ↓ws_brk, ↓ws_cont, ↓ws_pass, ↓sq_n, ↓sq_b, ↓sq_c, ↓sq_r, ↓sq_z, ↓fin_ret, ↓fin_next, ↓fin_rz, ↓ws_rz, ↓ws_try, ↓ws_tryA, ↓tqa_n, ↓tqa_b, ↓tqa_c, ↓tqa_r, ↓tqa_zi, ↓ws_dset, ↓ws_daug, ↓dputV_ref, ↓wp_dnew, ↓wp_dget, ↓wp_din, ↓dgetV_ref, ↓dinV_ref, ↓wp_dgt, ↓dgtV_ref, ↓wp_dst, ↓dstV_ref, ↓wp_dmk, ↓wp_dcp, ↓wp_ddl, ↓wp_dcm, ↓wp_dvm, ↓wp_dsr, ↓wp_trv, ↓wp_tix, ↓wp_irv, ↓tq_n, ↓tq_b, ↓tq_c, ↓tq_r, ↓tq_zi, ↓isTy_cv, ↓isTy_rt, ↓tr_cv, ↓tr_rt, refW_ref, blW_bl, dicLk_set, dicLk_al, dicLk_ne, dicW_ref, frW_ref, tupW_tup, dicAt_z, dicAt_s, dicAt_al, dicAt_e, dicAt_ar, dicAt_set, dicAt_ne, dicFr_z, dicFr_s, dicFr_al, dicFr_e, dicFr_ar, dicFr_set, dicFr_ne, toPr2_one, toPr2_two, look_z, look_s, rgW_rg, isNon_non, isNon_bl, isNon_int, isNon_str, isNon_tup, isNon_fl, isNon_ref, eqW_int, eqW_bl, tr_non, tr_bl, tr_int, tr_tup, ixN_in, ixN_neg, mtW_ref, seqOf_ref, seqOf_tup, seqOf_fl, seqOf_rt, seqOf_cv, isNon_rt, isNon_cv, isTup_rt, isTup_cv, guOf_rt, guOf_cv, isTy_rt, isTy_cv, cv_eq, rt_eq, asg_rt, asg_cv, asg_var, asg_tup2, asg_tup3, isTy, guOf, isTup, intW, aug_add, aug_sub, augO_a, augO_s, lstAt_z, lstAt_s, lstAt_al, lstAt_e, lstAt_ar, Nat.sub_self, Nat.add_sub_cancel_left, Nat.reduceSubDiff, List.append_assoc, lstAt_set, lstAt_ne, toInts_ints, toInts_nil, toInts_cons, toBls_nil, toBls_cons, Option.map_some, List.set_cons_succ, List.set_cons_zero, List.getElem?_cons_zero, List.getElem?_cons_succ, List.getElem_cons_zero, List.getElem_cons_succ, List.length_cons, List.length_nil, List.length_set, List.length_append, List.length_map, List.nil_append, List.cons_append, List.append_nil, List.set_set, Nat.reduceAdd, Nat.reduceLeDiff, Nat.reduceLT, Nat.reduceSub, true_and, and_true, Bool.not_true, Bool.not_false, decide_true, decide_false, Int.reduceToNat, Int.reducePow, Int.reduceNeg, Int.cast_ofNat_Int, decide_eq_true_eq, Nat.zero_add, Nat.add_zero, Int.toNat_natCast, Int.reduceLT, Int.reduceLE, Int.reduceBNe, Int.reduceEq, Nat.le_refl]
      rw [tidy_one (Old.refl h) blw_int]
      refine ⟨?_, rfl⟩
      unfold upF
      congr 1
      omega
    simp! only []
    rw [eg, wp_ok]
    simp! only []
    rw [tidy_one (Old.refl h) blw_int]
    exact ⟨by rw [if_neg hz], rfl⟩
theorem okb_cu20 {c : Cv} (o : OkB 20 c) : Cu 4 12 20 (VC c) c := o.cu (by
  have l := o.l
  have : c.2.2.length = 1 ∨ c.2.2.length = 2 ∨ c.2.2.length = 3 ∨ c.2.2.length = 4 := by omega
  rcases this with e | e | e | e <;> rw [e] <;> decide)
theorem at_vc {k : Nat} {h : Hw} {c : Cv} {x : Nat} (o : OkB 20 c) : PhiN ds (k + 1) 11 [cvW c, .int x] h = .ok (.int (VC c x)) h := by
  have l := o.l
  have s := o.s (by decide)
  show PhiN ds (k + 1) 11 [cv c.1 c.2.1 c.2.2, .int x] h = _
  rw [at_ok (by omega) (by omega) (by omega), val_nat _ _ _ l.2.1]; rfl
end Law

namespace Law
open PySem Ev
theorem wp_runx {r : Res W} {x : Ex} {h' : Hw} (w : wp r (fun _ _ => False) (fun e g => e = x ∧ g = h')) : r = .exc x h' := by
  cases r with
  | ok a g => exact w.elim
  | exc e g => obtain ⟨rfl, rfl⟩ := w; rfl
  | err => exact w.elim
theorem check_bad {k : Nat} {h : Hw} {c : Cv} (hs : c.2.2.sum ≤ 0) : PhiN ds (k + 2) 5 [cvW c] h = .exc ⟨0, []⟩ h := by
  refine wp_runx (go__check_unbounded ?_)
  unfold s__check_unbounded
  have ew : cvW c = cv c.1 c.2.1 c.2.2 := rfl
  have e1 : decide (0 < c.2.2.sum) = false := decide_eq_false (by omega)
  simp! only [ew]
  rw [unb_ok, wp_ok, e1]
  simp! only []
theorem point_wp {k q p : Nat} {h : Hw} {Q : W → Hw → Prop} {E : Ex → Hw → Prop} (T : Tp q p h) (K : ∀ (r : Int) (h' : Hw), 0 ≤ r → Fr q p h h' → h'.length = h.length → Q (.int r) h') : wp (PhiN ds (k + 2) 8 [.ref p] h) Q E := by
  refine go__law_point ?_
  unfold s__law_point
  have hp := T.lt
  simp! only []
  refine draw2 (T.app _) (by omega) fun r1 g1 a1 b1 F1 L1 => ?_
  have e1 : lstAt g1 h.length = some [.int 30, .int 1000, .int 1000000000, .int 1000000000000000000000000000000] := by rw [F1.lst (by simp) (by omega)]; simp [lstAt_e, lstAt_z]
  have L1' : g1.length = h.length + 1 := by rw [L1]; simp
  simp! only [e1]
  refine wo_pick [30, 1000, 1000000000, 1000000000000000000000000000000] (fun c => 0 ≤ c ∧ c ≤ 1000000000000000000000000000000) (by simp; omega) (by simp) fun c hc => ?_
  simp! only []
  refine draw2 F1.tp (by omega) fun r2 g2 a2 b2 F2 L2 => ?_
  simp! only []
  exact tidy_fr ((((Fr.refl T).app _).trans F1).trans F2) T blw_int fun g F L => K _ _ a2 F L
theorem whole_ok {k : Nat} {h : Hw} {i : Int} : PhiN ds (k + 1) 9 [.int i] h = .ok (.bl true) h := by
  refine wp_run (go__law_whole ?_)
  unfold s__law_whole
  simp! only []
  rw [tidy_one (Old.refl h) blw_bl]; exact ⟨rfl, rfl⟩
def natI (n : Nat) : W := .int n
end Law

namespace Law
open PySem Ev
theorem lowat_bad {k : Nat} {h : Hw} {c : Cv} {x : Int} (hs : c.2.2.sum ≤ 0) : PhiN ds (k + 3) 3 [cvW c, .int x] h = .exc ⟨0, []⟩ h := by
  generalize w1 : cvW c = wc
  refine wp_runx (go_lower_at ?_)
  subst w1
  unfold s_lower_at
  simp! only []
  rw [check_bad hs, wp_exc]
  simp! only []
theorem upat_bad {k : Nat} {h : Hw} {c : Cv} {x : Int} (hs : c.2.2.sum ≤ 0) : PhiN ds (k + 3) 4 [cvW c, .int x] h = .exc ⟨0, []⟩ h := by
  generalize w1 : cvW c = wc
  refine wp_runx (go_upper_at ?_)
  subst w1
  unfold s_upper_at
  simp! only []
  rw [check_bad hs, wp_exc]
  simp! only []
theorem refused_ok {k : Nat} {h : Hw} {c : Cv} {x v : Int} (hs : c.2.2.sum ≤ 0) : PhiN ds (k + 4) 16 [cvW c, .int x, .int v] h = .ok (.bl true) h := by
  have lo : ∀ g, PhiN ds (k + 3) 3 [cvW c, .int x] g = .exc ⟨0, []⟩ g := fun g => lowat_bad hs
  have up : ∀ g, PhiN ds (k + 3) 4 [cvW c, .int x] g = .exc ⟨0, []⟩ g := fun g => upat_bad hs
  generalize w1 : cvW c = wc at *
  refine wp_run (go__law_refused ?_)
  unfold s__law_refused
  simp! only []
  refine wps_rng (fun i ρ g => g = h ∧ ∃ x4, ρ = [some wc, some (.int x), some (.int v), some (.int i), x4, none]) ?_ ⟨rfl, _, rfl⟩ ?_
  · rintro i ρ g hi ⟨rfl, x4, rfl⟩
    simp! only [b__law_refused_3, t__law_refused_1]
    generalize hT : tqa (PhiN ds (k + 3)) 0 5 e__law_refused_2 _ = Tq
    have K : Tq (.rz ⟨0, []⟩) [some wc, some (.int x), some (.int v), some (.int i), some (.int (0 + (i : Int))), none] g := by
      rw [← hT]
      simp! only [e__law_refused_2]
      exact ⟨some (.int (0 + (i : Int))), by rw [if_pos trivial]⟩
    refine br_intro (fun hz => ?_) (fun hz => ?_)
    · simp! only []
      rw [lo, wp_exc]
      exact K
    · simp! only []
      rw [up, wp_exc]
      exact K
  · rintro ρ g ⟨rfl, x4, rfl⟩
    simp! only []
    rw [tidy_pf (Pf.refl _) blw_bl]
    exact ⟨rfl, rfl⟩
theorem told_ok {k : Nat} {h : Hw} {c : Cv} {L : Nat → Nat} {x v : Nat} (o : OkB 20 c) (g : Gal (VC c) L) (hv : v ≤ 1) : PhiN ds (k + 4) 17 [cvW c, .int x, .int v] h = .ok (.tup [.int (L x), if (x : Int) < VC c 0 then .non else .int (upF L x)]) h := by
  have lo : ∀ g, PhiN ds (k + 3) 3 [cvW c, .int x] g = .ok (.int (L x)) g := fun g' => lowat_ok (okb_cu20 o) g (by omega) (by omega) x
  have up : ∀ g, PhiN ds (k + 3) 4 [cvW c, .int x] g = .ok (if (x : Int) < VC c 0 then .non else .int (upF L x)) g := fun g' => upat_ok (okb_cu20 o) g (by omega) (by omega) x
  have bu : (if (x : Int) < VC c 0 then W.non else .int (upF L x)).blw h.length := by
    split
    · exact blw_non
    · exact blw_int
  generalize (if (x : Int) < VC c 0 then W.non else .int (upF L x)) = U at *
  generalize w1 : cvW c = wc at *
  generalize L x = l at *
  refine wp_run (go__law_told ?_)
  unfold s__law_told
  obtain ⟨ws, hws⟩ : ∃ ws : Nat → List W, ws = fun i => if i = 0 then [.non, .non] else if i = 1 then (if v = 0 then [.int l, .non] else [.non, U]) else [.int l, U] := ⟨_, rfl⟩
  have w0 : ws 0 = [.non, .non] := by rw [hws]; rfl
  have w2 : ws 2 = [.int l, U] := by rw [hws]; rfl
  have wl : ∀ i, ∃ a b, ws i = [a, b] := fun i => by
    rw [hws]
    dsimp only
    split
    · exact ⟨_, _, rfl⟩
    · split
      · split <;> exact ⟨_, _, rfl⟩
      · exact ⟨_, _, rfl⟩
  have wa : ∀ i, i < 2 → i = v → (ws i).set 0 (.int l) = ws (i + 1) := fun i h1 h2 => by
    rw [hws]
    have : i = 0 ∨ i = 1 := by omega
    rcases this with rfl | rfl
    · simp [← h2]
    · simp [← h2]
  have wb : ∀ i, i < 2 → ¬ i = v → (ws i).set 1 U = ws (i + 1) := fun i h1 h2 => by
    rw [hws]
    have : i = 0 ∨ i = 1 := by omega
    rcases this with rfl | rfl
    · have : v = 1 := by omega
      simp [this]
    · have : v = 0 := by omega
      simp [this]
  simp! only []
  refine wps_rng (fun i ρ g => g = h ++ [.lst (ws i)] ∧ ∃ x4, ρ = [some wc, some (.int x), some (.int v), some (.ref h.length), x4]) ?_ ⟨by rw [w0], _, rfl⟩ ?_
  · rintro i ρ g hi ⟨rfl, x4, rfl⟩
    obtain ⟨a, b, eab⟩ := wl i
    have e1 : lstAt (h ++ [O.lst (ws i)]) h.length = some (ws i) := lstAt_e
    have sx : ∀ y, List.set (h ++ [O.lst (ws i)]) h.length (.lst y) = h ++ [.lst y] := fun y => by rw [List.set_append_right _ _ (Nat.le_refl _), Nat.sub_self]; rfl
    have lw : (ws i).length = 2 := by rw [eab]; rfl
    have A := wa i hi
    have B := wb i hi
    simp! only [b__law_told_3, t__law_told_1]
    refine br_intro (fun hz => ?_) (fun hz => ?_)
    · simp! only []
      rw [lo, wp_ok]
      simp! only [e1, lw, sx]
      exact ⟨by rw [A (by omega)], _, rfl⟩
    · simp! only []
      rw [up, wp_ok]
      simp! only [e1, lw, sx]
      exact ⟨by rw [B (by omega)], _, rfl⟩
  · rintro ρ g ⟨rfl, x4, rfl⟩
    have e1 : lstAt (h ++ [O.lst (ws 2)]) h.length = some [.int l, U] := by rw [← w2]; exact lstAt_e
    simp! only [e1]
    rw [tidy_pf ((Pf.refl h).app _) (blw_tup (blws_cons blw_int (blws_cons bu blws_nil)))]
    exact ⟨rfl, rfl⟩
theorem right_ok {k p : Nat} {h : Hw} {c : Cv} {L : Nat → Nat} {n v : Nat} {xs : List Nat} (o : OkB 20 c) (G : Gal (VC c) L) (hv : v ≤ 1) (ep : lstAt h p = some (xs.map natI)) : PhiN ds (k + 6) 18 [cvW c, .ref p, .int n, .int v] h = .ok (.bl true) h := by
  have told : ∀ (x : Nat) g, PhiN ds (k + 5) 17 [cvW c, .int x, .int v] g = .ok (.tup [.int (L x), if (x : Int) < VC c 0 then .non else .int (upF L x)]) g := fun x g => told_ok (k := k + 1) o G hv
  have lat : ∀ (x : Nat) g, PhiN ds (k + 5) 11 [cvW c, .int x] g = .ok (.int (VC c x)) g := fun x g => at_vc o
  have wh : ∀ (i : Int) g, PhiN ds (k + 5) 9 [.int i] g = .ok (.bl true) g := fun i g => whole_ok
  have sq0 : ∀ g : Hw, seqOf g (cvW c) = some [.int c.1, .tup (c.2.1.map W.int), .tup (c.2.2.map W.int)] := fun _ => rfl
  have c0 : VC c 0 = c.1 := by unfold VC; simp [psum]
  have upi := fun x p => upF_iff G x p
  generalize cvW c = wc at *
  refine wp_run (go__law_right ?_)
  unfold s__law_right
  simp! only [ep]
  refine wps_for natI xs (fun pre ρ g => g = h ∧ ∃ x4 x5 x6 x7, ρ = [some wc, some (.ref p), some (.int n), some (.int v), x4, x5, x6, x7]) (fun _ _ _ z => guOk_one (by rw [z.1]; exact ep)) ?_ ⟨rfl, _, _, _, _, rfl⟩ ?_
  · rintro pre x suf ρ g e ⟨rfl, x4, x5, x6, x7, rfl⟩
    have ex : natI x = .int x := rfl
    simp! only [b__law_right_3, ex]
    refine wp_eq (told x g) ?_
    simp! only []
    refine wp_eq (wh _ g) ?_
    simp! only []
    refine br_intro (fun hz => absurd hz (by omega)) (fun _ => ?_)
    simp! only []
    generalize hS : sq (PhiN ds (k + 5)) _ _ = Sq
    have NX : ∀ x7, Sq .next [some wc, some (.ref p), some (.int n), some (.int v), some (.int x), some (.tup [.int (L x), if (x : Int) < VC c 0 then .non else .int (upF L x)]), some (.int (L x)), x7] g := by
      intro x7
      rw [← hS]
      clear hS
      by_cases hx : (x : Int) < VC c 0
      · rw [if_pos hx]
        simp! only [sq0]
        refine br_intro (fun hz => ?_) (fun hz => absurd (by rw [← c0]; exact hx) hz)
        simp! only []
        exact ⟨_, _, _, _, rfl⟩
      · rw [if_neg hx]
        simp! only [sq0]
        refine br_intro (fun hz => absurd (by rw [c0]; exact hz) hx) (fun hz => ?_)
        simp! only []
        refine wp_eq (wh _ g) ?_
        simp! only []
        refine br_intro (fun hz => absurd hz (by omega)) (fun _ => ?_)
        simp! only []
        have e3 : [W.int n, W.int (upF L x), W.int ((upF L x : Int) + 1)] = [n, upF L x, upF L x + 1].map natI := rfl
        rw [e3]
        refine wps_for natI [n, upF L x, upF L x + 1] (fun pre ρ g' => g' = g ∧ ∃ x7, ρ = [some wc, some (.ref p), some (.int n), some (.int v), some (.int x), some (.tup [.int (L x), .int (upF L x)]), some (.int (upF L x)), x7]) (fun _ _ _ _ => guOk_nil) ?_ ⟨rfl, _, rfl⟩ ?_
        · rintro pre at_ suf ρ g' e' ⟨rfl, x7, rfl⟩
          have ea : natI at_ = .int at_ := rfl
          have de : decide ((at_ : Int) ≤ (upF L x : Int)) = decide (VC c at_ ≤ (x : Int)) := by
            refine decide_eq_decide.mpr ?_
            have := upi x at_
            constructor
            · intro z
              rcases this.mp (by omega) with y | y
              · rw [y]; omega
              · exact y
            · intro z
              have := this.mpr (.inr z)
              omega
          simp! only [b__law_right_2, ea]
          refine wp_eq (lat at_ _) ?_
          rw [de]
          simp! only []
          exact ⟨_, rfl⟩
        · rintro ρ g' ⟨rfl, x7, rfl⟩
          simp! only []
          exact ⟨_, _, _, _, rfl⟩
    have e3 : [W.int n, W.int (L x), W.int (max ((L x : Int) - 1) 0)] = [n, L x, L x - 1].map natI := by
      show _ = [W.int n, W.int (L x), W.int ((L x - 1 : Nat) : Int)]
      rw [show max ((L x : Int) - 1) 0 = ((L x - 1 : Nat) : Int) by omega]
    rw [e3]
    refine wps_for natI [n, L x, L x - 1] (fun pre ρ g' => g' = g ∧ ∃ x7, ρ = [some wc, some (.ref p), some (.int n), some (.int v), some (.int x), some (.tup [.int (L x), if (x : Int) < VC c 0 then .non else .int (upF L x)]), some (.int (L x)), x7]) (fun _ _ _ _ => guOk_nil) ?_ ⟨rfl, _, rfl⟩ ?_
    · rintro pre at_ suf ρ g' e' ⟨rfl, x7, rfl⟩
      have ea : natI at_ = .int at_ := rfl
      have de : decide ((L x : Int) ≤ (at_ : Int)) = decide ((x : Int) ≤ VC c at_) := by
        refine decide_eq_decide.mpr ?_
        have := G x at_
        constructor
        · intro z; exact this.mp (by omega)
        · intro z; have := this.mpr z; omega
      simp! only [b__law_right_1, ea]
      refine wp_eq (lat at_ _) ?_
      rw [de]
      simp! only []
      exact ⟨_, rfl⟩
    · rintro ρ g' ⟨rfl, x7, rfl⟩
      exact NX _
  · rintro ρ g ⟨rfl, x4, x5, x6, x7, rfl⟩
    simp! only []
    rw [tidy_pf (Pf.refl _) blw_bl]
    exact ⟨rfl, rfl⟩
end Law

namespace Law
open PySem Ev
theorem gal_c {c : Cv} (o : OkB 20 c) (hs : 0 < c.2.2.sum) : ∃ L, Gal (VC c) L := (okb_cu20 o).gal hs
theorem law_true (ns : List Int) (hn : ns.length ≤ 63) : ∃ h', PhiN (rs.map (·.d)) 61 19 [.fl (ns.map .int)] [] = .ok (.bl true) h' := by
  refine wp_law ?_
  rw [ds_eq]
  refine go_law ?_
  unfold s_law
  simp! only []
  refine tape_wp fun cc => ?_
  have T : Tp 0 1 [.lst (ns.map W.int), .lst [.ref 0, .int 0, .int 0, .int cc]] := ⟨by omega, ⟨ns, rfl⟩, 0, 0, cc, by omega, rfl⟩
  generalize hg0 : [O.lst (ns.map W.int), O.lst [W.ref 0, W.int 0, W.int 0, W.int cc]] = g0 at T
  have L0 : g0.length = 2 := by rw [← hg0]; rfl
  clear hg0
  simp! only []
  refine growing_wp T (by omega) (by omega) fun i1 hd1 tn1 g1 a1 l1 x1 s1 F1 L1 => ?_
  obtain ⟨c1, ec1⟩ : ∃ c1 : Cv, c1 = (i1, hd1, tn1) := ⟨_, rfl⟩
  have o1 : OkB 20 c1 := by rw [ec1]; exact ⟨a1, l1, x1⟩
  have p1 : 0 < c1.2.2.sum := by rw [ec1]; exact s1
  have ew1 : cv i1 hd1 tn1 = cvW c1 := by rw [ec1]; rfl
  clear ec1
  rw [ew1]
  simp! only []
  refine growing_wp F1.tp (by omega) (by omega) fun i2 hd2 tn2 g2 a2 l2 x2 s2 F2 L2 => ?_
  obtain ⟨c2, ec2⟩ : ∃ c2 : Cv, c2 = (i2, hd2, tn2) := ⟨_, rfl⟩
  have o2 : OkB 20 c2 := by rw [ec2]; exact ⟨a2, l2, x2⟩
  have p2 : 0 < c2.2.2.sum := by rw [ec2]; exact s2
  have ew2 : cv i2 hd2 tn2 = cvW c2 := by rw [ec2]; rfl
  clear ec2
  rw [ew2]
  have l02 : g2.length = 2 := by omega
  have e2 : ∀ X, lstAt (g2 ++ O.lst [cvW c1, cvW c2] :: X) g2.length = some [cvW c1, cvW c2] := fun X => lstAt_e
  simp! only []
  refine draw2 (F2.tp.app _) (by omega) fun r3 g3 a3 b3 F3 L3 => ?_
  have n3 : lstAt g3 g2.length = some [cvW c1, cvW c2] := by rw [F3.lst (by simp) (by omega)]; exact e2 _
  have l3 : g3.length = 3 := by rw [L3]; simp; omega
  simp! only []
  refine draw2 (F3.tp.app _) (by omega) fun r4 g4 a4 b4 F4 L4 => ?_
  have n4 : lstAt g4 g2.length = some [cvW c1, cvW c2] := by rw [F4.lst (by simp; omega) (by omega), lstAt_al (by omega)]; exact n3
  have l4 : g4.length = 4 := by rw [L4]; simp; omega
  have m4 : lstAt g4 g3.length = some ([31, 61, 201].map W.int) := by rw [F4.lst (by simp) (by omega)]; exact lstAt_e
  obtain ⟨v, rfl⟩ := Int.eq_ofNat_of_zero_le a4
  have hv : v < [(31 : Int), 61, 201].length := by simp; omega
  have hb : ∀ x ∈ [(31 : Int), 61, 201], 0 ≤ x ∧ x ≤ 201 := by simp
  have bz := hb _ (List.getElem_mem hv)
  have gx : ([(31 : Int), 61, 201].map W.int)[v]? = some (.int [(31 : Int), 61, 201][v]) := by rw [List.getElem?_map, List.getElem?_eq_getElem hv]; rfl
  generalize hsz : [(31 : Int), 61, 201] = sz at *
  generalize sz[v] = u at *
  have lsz : sz.length = 3 := by rw [← hsz]; rfl
  simp! only [m4, gx]
  refine draw2 F4.tp (by omega) fun r5 g5 a5 b5 F5 L5 => ?_
  have n5 : lstAt g5 g2.length = some [cvW c1, cvW c2] := by rw [F5.lst (by omega) (by omega)]; exact n4
  simp! only []
  refine point_wp (F5.tp.app _) fun r6 g6 a6 F6 L6 => ?_
  have l5 : g5.length = 4 := by omega
  have n6 : lstAt g6 g2.length = some [cvW c1, cvW c2] := by rw [F6.lst (by simp; omega) (by omega), lstAt_al (by omega)]; exact n5
  have m6 : lstAt g6 g5.length = some [.int r3, .int r5] := by rw [F6.lst (by simp) (by omega)]; exact lstAt_e
  have l6 : g6.length = 5 := by rw [L6]; simp; omega
  obtain ⟨n, rfl⟩ := Int.eq_ofNat_of_zero_le a6
  obtain ⟨y1, rfl⟩ := Int.eq_ofNat_of_zero_le a3
  obtain ⟨y2, rfl⟩ := Int.eq_ofNat_of_zero_le a5
  obtain ⟨j1, hj1⟩ := Int.eq_ofNat_of_zero_le o1.i.1
  obtain ⟨j2, hj2⟩ := Int.eq_ofNat_of_zero_le o2.i.1
  have sq0 : ∀ (c : Cv) (g : Hw), seqOf g (cvW c) = some [.int c.1, .tup (c.2.1.map W.int), .tup (c.2.2.map W.int)] := fun _ _ => rfl
  obtain ⟨sv, hsv⟩ : ∃ sv : Cv → List W, sv = fun c => [.int 0, .int 1, .int 2, .int 3, .int 4, .int 5, .int c.1] := ⟨_, rfl⟩
  obtain ⟨fu, hfu⟩ : ∃ fu : Cv → List W, fu = fun c => [.int 0, .int 1, .int 2, .int 3, .int 4, .int 5, .int c.1, .int y1, .int y2] := ⟨_, rfl⟩
  obtain ⟨ob, hob⟩ : ∃ ob : List Cv → Hw, ob = fun cs => cs.flatMap fun c => [O.lst (sv c), O.lst (fu c)] := ⟨_, rfl⟩
  have lob : ∀ cs, (ob cs).length = 2 * cs.length := fun cs => by
    rw [hob]
    induction cs with
    | nil => rfl
    | cons a cs ih => simp only [List.flatMap_cons, List.length_append, List.length_cons, List.length_nil] at ih ⊢; omega
  have sob : ∀ cs c, ob (cs ++ [c]) = ob cs ++ [O.lst (sv c), O.lst (fu c)] := fun cs c => by rw [hob]; simp
  simp! only [n6]
  refine wp_comp cvW [c1, c2] (fun pre g acc => g = g6 ++ ob pre ∧ acc = (List.range pre.length).map fun i => W.ref (g6.length + 2 * i + 1)) (fun pre g acc z => guOk_one (by rw [z.1, lstAt_al (by omega)]; exact n6)) ?_ ⟨by rw [hob]; simp, rfl⟩ ?_
  · rintro pre c suf g acc e ⟨rfl, rfl⟩
    have lp := lob pre
    have lp2 : pre.length < 2 := by have := congrArg List.length e; simp at this; omega
    have m6' : ∀ X, lstAt (g6 ++ (ob pre ++ X)) g5.length = some [.int y1, .int y2] := fun X => by rw [lstAt_al (by omega)]; exact m6
    have s6' : ∀ X, lstAt (g6 ++ (ob pre ++ O.lst (sv c) :: X)) (g6.length + 2 * pre.length) = some (sv c) := fun X => by
      rw [← List.append_assoc, lstAt_ar (by simp; omega), show g6.length + 2 * pre.length - (g6 ++ ob pre).length = 0 by simp; omega]; rfl
    have esv : [W.int 0, W.int 1, W.int 2, W.int 3, W.int 4, W.int 5, W.int c.1] = sv c := by rw [hsv]
    have efu : sv c ++ [W.int y1, W.int y2] = fu c := by rw [hsv, hfu]; rfl
    have lsv : (sv c).length = 7 := by rw [hsv]; rfl
    have lg : (g6 ++ ob pre).length = g6.length + 2 * pre.length := by simp; omega
    simp! only [wipe, c_law_1, sq0, esv, m6', s6', lg, lsv, efu]
    refine ⟨by simp; omega, by rw [sob], ?_⟩
    rw [List.range_succ, List.map_append, List.map_cons, List.map_nil, lp]
    rfl
  rintro g acc ⟨rfl, rfl⟩
  have er : (List.range [c1, c2].length).map (fun i => W.ref (g6.length + 2 * i + 1)) = [.ref (g6.length + 1), .ref (g6.length + 3)] := rfl
  rw [er]
  have eo : ob [c1, c2] = [O.lst (sv c1), O.lst (fu c1), O.lst (sv c2), O.lst (fu c2)] := by rw [hob]; rfl
  rw [eo]
  clear eo er sob lob
  have f1 : ∀ X, lstAt (g6 ++ O.lst (sv c1) :: O.lst (fu c1) :: X) (g6.length + 1) = some (fu c1) := fun X => by rw [lstAt_ar (by omega), Nat.add_sub_cancel_left]; rfl
  have f2 : ∀ X, lstAt (g6 ++ O.lst (sv c1) :: O.lst (fu c1) :: O.lst (sv c2) :: O.lst (fu c2) :: X) (g6.length + 3) = some (fu c2) := fun X => by rw [lstAt_ar (by omega), Nat.add_sub_cancel_left]; rfl
  have r7 : ∀ A B C D E X, lstAt (g6 ++ A :: B :: C :: D :: O.lst E :: X) (g6.length + 4) = some E := fun A B C D E X => by rw [lstAt_ar (by omega), Nat.add_sub_cancel_left]; rfl
  have n7 : ∀ X, lstAt (g6 ++ X) g2.length = some [cvW c1, cvW c2] := fun X => by rw [lstAt_al (by omega)]; exact n6
  have m7 : ∀ X, lstAt (g6 ++ X) g5.length = some [.int y1, .int y2] := fun X => by rw [lstAt_al (by omega)]; exact m6
  have e1' : fu c1 = [0, 1, 2, 3, 4, 5, j1, y1, y2].map natI := by rw [hfu]; show [W.int 0, W.int 1, W.int 2, W.int 3, W.int 4, W.int 5, W.int c1.1, W.int y1, W.int y2] = _; rw [hj1]; rfl
  have e2' : fu c2 = [0, 1, 2, 3, 4, 5, j2, y1, y2].map natI := by rw [hfu]; show [W.int 0, W.int 1, W.int 2, W.int 3, W.int 4, W.int 5, W.int c2.1, W.int y1, W.int y2] = _; rw [hj2]; rfl
  obtain ⟨LA, GA⟩ := gal_c o1 p1
  obtain ⟨LB, GB⟩ := gal_c o2 p2
  simp! only []
  refine draw2 (F6.tp.app _) (by omega) fun r8 g8 a8 b8 F8 L8 => ?_
  have lg8 : g8.length = g6.length + 5 := by rw [L8]; simp
  obtain ⟨w, rfl⟩ := Int.eq_ofNat_of_zero_le a8
  have n8 : lstAt g8 g2.length = some [cvW c1, cvW c2] := by rw [F8.lst (by simp; omega) (by omega)]; exact n7 _
  have m8 : lstAt g8 g5.length = some [.int y1, .int y2] := by rw [F8.lst (by simp; omega) (by omega)]; exact m7 _
  have q8 : lstAt g8 (g6.length + 4) = some [.ref (g6.length + 1), .ref (g6.length + 3)] := by rw [F8.lst (by simp) (by omega)]; exact r7 _ _ _ _ _ _
  have u8 : lstAt g8 (g6.length + 1) = some ([0, 1, 2, 3, 4, 5, j1, y1, y2].map natI) := by rw [F8.lst (by simp) (by omega)]; rw [← e1']; exact f1 _
  have v8 : lstAt g8 (g6.length + 3) = some ([0, 1, 2, 3, 4, 5, j2, y1, y2].map natI) := by rw [F8.lst (by simp) (by omega)]; rw [← e2']; exact f2 _
  have R1 := right_ok (k := 54) (h := g8) (n := n) (v := w) o1 GA (by omega) u8
  have R2 := right_ok (k := 54) (h := g8) (n := n) (v := w) o2 GB (by omega) v8
  have R3 := right_ok (k := 54) (h := g8) (n := n) (v := 1 - w) o1 GA (by omega) u8
  simp! only [n8, q8]
  refine wp_eq R1 ?_
  simp! only [n8, q8]
  refine wp_eq R2 ?_
  have lt1 := o1.l
  have em : ∀ k : Nat, (List.replicate k [W.int 0]).flatten = (List.replicate k (0 : Int)).map W.int := fun k => by
    induction k with
    | zero => rfl
    | succ k ih => rw [List.replicate_succ, List.flatten_cons, ih]; rfl
  have zs : ∀ k : Nat, (List.replicate k (0 : Int)).sum = 0 := fun k => by
    induction k with
    | zero => rfl
    | succ k ih => rw [List.replicate_succ, List.sum_cons, ih]; rfl
  obtain ⟨fl, hfl⟩ : ∃ fl : Cv, fl = (c1.1, c1.2.1, List.replicate c1.2.2.length 0) := ⟨_, rfl⟩
  have hs : fl.2.2.sum ≤ 0 := by rw [hfl]; show (List.replicate _ _).sum ≤ 0; rw [zs]; exact Int.le_refl _
  have ef : W.tup [.int c1.1, .tup (c1.2.1.map W.int), .tup ((List.replicate c1.2.2.length (0 : Int)).map W.int)] = cvW fl := by rw [hfl]; rfl
  have Q1 : ∀ x v : Int, PhiN ds 60 16 [cvW fl, .int x, .int v] g8 = .ok (.bl true) g8 := fun x v => refused_ok (k := 56) hs
  simp! only [n8, q8, sq0 c1]
  rw [em]
  try rw [ef]
  have ew : (1 : Int) - (w : Int) = ((1 - w : Nat) : Int) := by omega
  refine ⟨by omega, ?_⟩
  simp! only [m8]
  refine wp_eq (Q1 _ _) ?_
  simp! only []
  refine wp_eq (Q1 _ _) ?_
  simp! only [n8, q8]
  rw [ew]
  refine wp_eq R3 ?_
  simp! only []
  rw [tidy_nil blw_bl]
  rfl
end Law

open PySem PySem.W PySem.Calls PyProof.Rows Ev
set_option maxHeartbeats 0 in
theorem PySem.Challenge.cw_plantrace_k10_inverses_at_a_point_holds : PySem.Challenge.rw_plantrace_k10_inverses_at_a_point.Holds := by
  w_on; o_law
  refine HandSHeadRun.head_any (r := OpenLaw.row PySem.Challenge.rw_plantrace_k10_inverses_at_a_point) (q := view (OpenLaw.row PySem.Challenge.rw_plantrace_k10_inverses_at_a_point).prog [34]) (H := Law.hk) (ob := obE 4 (faOf Law.rs Law.blt) (fnOf Law.P Law.rs) (exOf Law.mth Law.cns Law.cls Law.blt Law.ist)) (M := 4000) (loose := ["least_point", "greatest_point", "is_unbounded", "PlantError", "BadPlant", "BadBill", "BoundedCurve", "TooMuch", "TooLarge", "CannotRun", "NoSuchUnit", "NotConvergent", "NothingToUndo", "lower_at", "upper_at", "_check_unbounded", "_law_tape", "_law_draw", "_law_point", "_law_whole", "_law_single", "_law_at", "_law_rise", "_law_longer", "_law_curve", "_law_growing", "_law_refused", "_law_told", "_law_right"]) (d := HandSHeadRun.topDef (OpenLaw.row PySem.Challenge.rw_plantrace_k10_inverses_at_a_point).prog 34) (kwd := []) (obE_eq _ _ _ _) (by kernel_rfl) (fun s => by kernel_rfl) Law.run (by kernel_rfl) (by kernel_rfl) (by kernel_rfl) (by rfl) (by first | assumption | decide +kernel) (by decide +kernel) ⟨rfl, rfl, rfl, rfl, rfl, by decide +kernel⟩ ?hw ?hc
  case hw => w_witness2
  case hc =>
    exact walk_ev (l := PySem.Challenge.rw_plantrace_k10_inverses_at_a_point) (n := 63) (k := 60) (li := 19) (r := Law.r_law) (rs := Law.rs) (blt := Law.blt) (mth := Law.mth) (cns := Law.cns) (cls := Law.cls) (ist := Law.ist) (sng := Law.sng) rfl (by decide) (by kernel_rfl) ⟨rfl, by decide, by decide⟩ (by kernel_rfl) Law.oks Law.sngs rfl rfl Law.law_true
