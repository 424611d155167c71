import PyProof.Rows.All
import Wide.All
import OpenK.AllK
import Wide.FinOn
import HandS.ForMost
import HandS.ForExc
import HandS.Wide
import HandS.WideBits
import HandS.Flow
import HandS.TupAny
import HandS.TupMul
import HandS.Gcd
import KE.KMathGC
import KE.KTupSum
import HandS.Deep
import HandS.IsInst
import HandS.Conv
import HandS.Zip
import HandS.SortKw
import HandS.Sort
import HandS.SetFor
import HandS.Strs
import HandS.Defaults
import HandS.Head0
import HandS.Head1
import HandS.Head2
import HandS.HeadEnd
import HandS.HeadHook1
import HandS.HeadHook2
import HandS.Head3
import HandS.HeadHook4
import PySem.Challenge.RW_plantrace_k78_latest_start_and_elapsed
set_option Elab.async false
set_option linter.all false
set_option maxRecDepth 100000
set_option maxHeartbeats 4000000
set_option Elab.async false
set_option linter.all false
set_option maxRecDepth 100000
/-! Ev1: values, the small language, its meaning. -/
namespace Ev
open PySem

/-- values: tuples are data, other containers stand in the heap -/
inductive W where
  | non | bl (b : Bool) | int (i : Int) | str (x : Str) | tup (xs : List W) | fl (xs : List W) | ref (n : Nat) | rg (i j : Int)

/-- what stands in the heap -/
inductive O where
  | lst (xs : List W)
  | dic (kvs : List (W × W))
abbrev Hw := List O
abbrev En := List (Option W)
/-- an exception: its class, its fields -/
structure Ex where
  cls : Nat
  args : List W

inductive Res (α : Type) where
  | ok (a : α) (h : Hw) | exc (e : Ex) (h : Hw) | err
def Res.bind {α β : Type} : Res α → (α → Hw → Res β) → Res β
  | .ok a h, f => f a h
  | .exc e h, _ => .exc e h
  | .err, _ => .err
@[simp] theorem Res.bind_ok {α β : Type} (a : α) (h : Hw) (f : α → Hw → Res β) : (Res.ok a h).bind f = f a h := rfl
@[simp] theorem Res.bind_exc {α β : Type} (e : Ex) (h : Hw) (f : α → Hw → Res β) : (Res.exc e h).bind f = .exc e h := rfl
theorem Res.bind_assoc {α β γ : Type} (r : Res α) (f : α → Hw → Res β) (g : β → Hw → Res γ) : (r.bind f).bind g = r.bind fun a h => (f a h).bind g := by cases r <;> rfl
@[simp] theorem Res.bind_err {α β : Type} (f : α → Hw → Res β) : (Res.err : Res α).bind f = .err := rfl

def lim : Nat := 16777216

/-! ### operators -/
inductive Bop | add | sub | mul | fdiv | mod | pow
  deriving DecidableEq
inductive Cop | eq | ne | lt | le | gt | ge | inn | nin | isN | notN
  deriving DecidableEq

def mulOk (i j : Int) : Bool := decide (i.natAbs < 18446744073709551616) || decide (j.natAbs < 18446744073709551616)
def divOk (j : Int) : Bool := decide (0 < j) && decide (j < 2 ^ 200)
def powOk (i j : Int) : Bool := decide (0 ≤ j) && decide (j ≤ 1000) && decide (i.natAbs < 18446744073709551616)

/-- a list or tuple that is read -/
def seqOf (h : Hw) : W → Option (List W)
  | .tup xs => some xs
  | .fl xs => some xs
  | .ref n => match h[n]? with
    | some (.lst xs) => some xs
    | _ => none
  | _ => none

def bop (o : Bop) (a b : W) (h : Hw) : Res W :=
  match o, a, b with
  | .add, .int i, .int j => .ok (.int (i + j)) h
  | .sub, .int i, .int j => .ok (.int (i - j)) h
  | .mul, .int i, .int j => if mulOk i j = true then .ok (.int (i * j)) h else .err
  | .fdiv, .int i, .int j => if divOk j = true then .ok (.int (i / j)) h else .err
  | .mod, .int i, .int j => if 0 < j then .ok (.int (i % j)) h else .err
  | .pow, .int i, .int j => if powOk i j = true then .ok (.int (i ^ j.toNat)) h else .err
  | .add, .tup xs, .tup ys => if xs.length + ys.length ≤ lim then .ok (.tup (xs ++ ys)) h else .err
  | .mul, .tup xs, .int k => if xs.length * k.toNat ≤ 1000000 ∧ k ≤ 1000000 ∧ -(2 ^ 62) < k then .ok (.tup (List.replicate k.toNat xs).flatten) h else .err
  | .add, .ref p, .ref q => match h[p]?, h[q]? with
    | some (.lst xs), some (.lst ys) => if xs.length + ys.length ≤ lim then .ok (.ref h.length) (h ++ [.lst (xs ++ ys)]) else .err
    | _, _ => .err
  | .mul, .ref p, .int k => match h[p]? with
    | some (.lst xs) => if xs.length * k.toNat ≤ lim ∧ k < 2 ^ 62 ∧ -(2 ^ 62) < k then .ok (.ref h.length) (h ++ [.lst (List.replicate k.toNat xs).flatten]) else .err
    | _ => .err
  | _, _, _ => .err

/-! data of a value, for ==: lists to one level, tuples to any -/
mutual
def W.toD (h : Hw) : W → Option PyData
  | .non => some .none
  | .bl b => some (.bool b)
  | .int i => some (.int i)
  | .str x => if PyData.strOk x = true then some (.str x) else none
  | .tup xs => (W.toDs h xs).map .tuple
  | .fl xs => (W.toDs h xs).map .list
  | .ref _ => none
  | .rg _ _ => none
def W.toDs (h : Hw) : List W → Option (List PyData)
  | [] => some []
  | x :: xs => match W.toD h x, W.toDs h xs with
    | some d, some ds => some (d :: ds)
    | _, _ => none
end
def W.toD1 (h : Hw) : W → Option PyData
  | .ref n => match h[n]? with
    | some (.lst xs) => (W.toDs h xs).map .list
    | _ => none
  | w => W.toD h w
def eqW (a b : W) (h : Hw) : Option Bool :=
  match W.toD1 h a, W.toD1 h b with
  | some d, some e => if d.depth ≤ 64 ∧ e.depth ≤ 64 then some (PyData.eqv d e) else none
  | _, _ => none

/-- scalars, for in and index -/
def flat : W → Bool
  | .non => true | .bl _ => true | .int _ => true | .str _ => true
  | _ => false

/-- a in b, b a list of data -/
def inW (a b : W) (h : Hw) : Option Bool :=
  match W.toD1 h a, W.toD1 h b with
  | some d, some (.list ds) => if d.depth ≤ 64 ∧ (PyData.list ds).depth ≤ 64 then some (ds.any fun z => PyData.eqv z d) else none
  | _, _ => none
def cmp (o : Cop) (a b : W) (h : Hw) : Res W :=
  match o with
  | .eq => match eqW a b h with | some k => .ok (.bl k) h | none => .err
  | .ne => match eqW a b h with | some k => .ok (.bl (!k)) h | none => .err
  | .lt => match a, b with | .int i, .int j => .ok (.bl (decide (i < j))) h | _, _ => .err
  | .le => match a, b with | .int i, .int j => .ok (.bl (decide (i ≤ j))) h | _, _ => .err
  | .gt => match a, b with | .int i, .int j => .ok (.bl (decide (j < i))) h | _, _ => .err
  | .ge => match a, b with | .int i, .int j => .ok (.bl (decide (j ≤ i))) h | _, _ => .err
  | .isN => .ok (.bl (match a with | .non => true | _ => false)) h
  | .notN => .ok (.bl (match a with | .non => false | _ => true)) h
  | .inn => match inW a b h with | some k => .ok (.bl k) h | none => .err
  | .nin => match inW a b h with | some k => .ok (.bl (!k)) h | none => .err

def truth (w : W) (h : Hw) : Option Bool :=
  match w with
  | .non => some false
  | .bl b => some b
  | .int i => some (i != 0)
  | .tup xs => some (!xs.isEmpty)
  | .fl xs => some (!xs.isEmpty)
  | .ref n => match h[n]? with
    | some (.lst xs) => some (!xs.isEmpty)
    | _ => none
  | _ => none

/-- the place of index i -/
def ixN (n : Nat) (i : Int) : Option Nat := if 0 ≤ i then (if i < n then some i.toNat else none) else if -(n : Int) ≤ i then some (i + n).toNat else none
def sIx (n d : Nat) : Option Int → Nat
  | none => d
  | some i => if i < 0 then (i + n).toNat else min i.toNat n
def cut (xs : List W) (lo hi : Option Int) : List W := (xs.drop (sIx xs.length 0 lo)).take (sIx xs.length xs.length hi - sIx xs.length 0 lo)

def item (a i : W) (h : Hw) : Res W :=
  match i with
  | .int k => match seqOf h a with
    | some xs => match ixN xs.length k with
      | some j => match xs[j]? with
        | some v => .ok v h
        | none => .err
      | none => .err
    | none => .err
  | _ => .err
def slice (a : W) (lo hi : Option Int) (h : Hw) : Res W :=
  match a with
  | .tup xs => .ok (.tup (cut xs lo hi)) h
  | .ref n => match h[n]? with
    | some (.lst xs) => .ok (.ref h.length) (h ++ [.lst (cut xs lo hi)])
    | _ => .err
  | _ => .err

/-- toInts of a list of values -/
def toInts : List W → Option (List Int)
  | [] => some []
  | .int i :: r => (toInts r).map (i :: ·)
  | _ :: _ => none

/-- built-in types for isinstance -/
inductive Ty | int | bool | str | tup | lst
  deriving DecidableEq
def isTy (w : W) (t : Ty) (h : Hw) : Option Bool :=
  match w with
  | .non => some false
  | .bl _ => some (match t with | .int => true | .bool => true | _ => false)
  | .int _ => some (match t with | .int => true | _ => false)
  | .str _ => some (match t with | .str => true | _ => false)
  | .tup _ => some (match t with | .tup => true | _ => false)
  | .fl _ => some (match t with | .lst => true | _ => false)
  | .rg _ _ => none
  | .ref n => match h[n]? with
    | some (.lst _) => some (match t with | .lst => true | _ => false)
    | _ => none

/-- built-in functions by values -/
inductive Bi | len | abs | toInt | isI (t : Ty) | max2 | min2 | divmod | lcm | gcd
  deriving DecidableEq
def bi (f : Bi) (vs : List W) (h : Hw) : Res W :=
  match f, vs with
  | .len, [a] => match seqOf h a with | some xs => .ok (.int xs.length) h | none => .err
  | .abs, [.int i] => .ok (.int (if i < 0 then -i else i)) h
  | .toInt, [.int i] => .ok (.int i) h
  | .toInt, [.bl b] => .ok (.int (if b then 1 else 0)) h
  | .isI t, [a] => match isTy a t h with | some k => .ok (.bl k) h | none => .err
  | .max2, [.int i, .int j] => .ok (.int (if j > i then j else i)) h
  | .min2, [.int i, .int j] => .ok (.int (if j < i then j else i)) h
  | .divmod, [.int i, .int j] => if divOk j = true then .ok (.tup [.int (i / j), .int (i % j)]) h else .err
  | .lcm, [.int i, .int j] => if i.natAbs < 18446744073709551616 ∧ j.natAbs < 18446744073709551616 then .ok (.int ((i.natAbs.lcm j.natAbs : Nat) : Int)) h else .err
  | .gcd, [.int i, .int j] => .ok (.int ((i.natAbs.gcd j.natAbs : Nat) : Int)) h
  | _, _ => .err

/-- built-in functions of one sequence -/
inductive Bl | sum | max | min | tuple | list | len | sorted
  deriving DecidableEq
def maxL : List Int → Int
  | [] => 0
  | x :: xs => xs.foldl (fun m y => if y > m then y else m) x
def minL : List Int → Int
  | [] => 0
  | x :: xs => xs.foldl (fun m y => if y < m then y else m) x
/-- insertion sort -/
def ins (x : Int) : List Int → List Int
  | [] => [x]
  | y :: ys => if x ≤ y then x :: y :: ys else y :: ins x ys
def isort : List Int → List Int
  | [] => []
  | x :: xs => ins x (isort xs)
/-- max of a list, j of none; b: a tuple (not served) -/
def maxDf (xs : List W) (b : Bool) (j : Int) (h : Hw) : Res W :=
  if b = true then .err else match toInts xs with
    | some [] => .ok (.int j) h
    | some (n :: ns) => .ok (.int (maxL (n :: ns))) h
    | none => .err
def srtf (xs : List W) (b : Bool) (h : Hw) : Res W :=
  if b = true then .err else match toInts xs with
    | some ns => if ns.length < 64 then .ok (.ref h.length) (h ++ [.lst ((isort ns).map .int)]) else .err
    | none => .err
/-- without doubles, in order -/
def insD (x : Int) : List Int → List Int
  | [] => [x]
  | y :: ys => if x < y then x :: y :: ys else if x = y then y :: ys else y :: insD x ys
def dsort : List Int → List Int
  | [] => []
  | x :: xs => insD x (dsort xs)
/-- sorted(set(xs)) of a tuple -/
def srtDf (xs : List W) (b : Bool) (h : Hw) : Res W :=
  if b = false then .err else match toInts xs with
    | some ns => if ns.length < 64 then .ok (.ref h.length) (h ++ [.lst ((dsort ns).map .int)]) else .err
    | none => .err
/-! equal data -/
mutual
def W.eqb : W → W → Bool
  | .non, .non => true
  | .bl a, .bl b => decide (a = b)
  | .int a, .int b => decide (a = b)
  | .str a, .str b => decide (a = b)
  | .tup xs, .tup ys => W.eqbs xs ys
  | _, _ => false
def W.eqbs : List W → List W → Bool
  | [], [] => true
  | x :: xs, y :: ys => W.eqb x y && W.eqbs xs ys
  | _, _ => false
end
/-- the truth values of a list -/
def toBls : List W → Option (List Bool)
  | [] => some []
  | .bl i :: r => (toBls r).map (i :: ·)
  | _ => none
/-- all and any of a list of truth values -/
def aaf (k : Bool) (xs : List W) (b : Bool) (h : Hw) : Res W :=
  if b = true then .err else match toBls xs with
    | some bs => .ok (.bl (if k then bs.all id else bs.any id)) h
    | none => .err
def bl (f : Bl) (xs : List W) (h : Hw) : Res W :=
  match f with
  | .sum => match toInts xs with | some ns => .ok (.int ns.sum) h | none => .err
  | .max => match toInts xs with | some (n :: ns) => .ok (.int (maxL (n :: ns))) h | _ => .err
  | .min => match toInts xs with | some (n :: ns) => .ok (.int (minL (n :: ns))) h | _ => .err
  | .tuple => .ok (.tup xs) h
  | .list => .ok (.ref h.length) (h ++ [.lst xs])
  | .len => .ok (.int xs.length) h
  | .sorted => match toInts xs with | some ns => if ns.length < 64 then .ok (.ref h.length) (h ++ [.lst ((isort ns).map .int)]) else .err | none => .err

/-- methods, by values -/
inductive Mt | append | extend | pop | popAt | index | count | insert
  deriving DecidableEq
/-- the first place of v in b -/
def ixW (v b : W) (h : Hw) : Option Nat :=
  match W.toD1 h v, W.toD1 h b with
  | some d, some (.list ds) => if d.depth ≤ 64 ∧ (PyData.list ds).depth ≤ 64 then ds.findIdx? (fun z => PyData.eqv z d) else none
  | _, _ => none
def mt (f : Mt) (o : W) (vs : List W) (h : Hw) : Res W :=
  match f, o, vs with
  | .append, .ref p, [v] => match h[p]? with
    | some (.lst xs) => if xs.length < lim then .ok .non (h.set p (.lst (xs ++ [v]))) else .err
    | _ => .err
  | .extend, .ref p, [.ref q] => match h[p]?, h[q]? with
    | some (.lst xs), some (.lst ys) => if xs.length + ys.length ≤ lim then .ok .non (h.set p (.lst (xs ++ ys))) else .err
    | _, _ => .err
  | .pop, .ref p, [] => match h[p]? with
    | some (.lst xs) => match xs[xs.length - 1]? with
      | some v => .ok v (h.set p (.lst xs.dropLast))
      | none => .err
    | _ => .err
  | .popAt, .ref p, [.int i] => if -(2 ^ 62) ≤ i ∧ i < 2 ^ 62 then match h[p]? with
    | some (.lst xs) => match ixN xs.length i with
      | some k => match xs[k]? with
        | some v => .ok v (h.set p (.lst (xs.eraseIdx k)))
        | none => .err
      | none => .err
    | _ => .err
    else .err
  | .index, .ref p, [v] => match ixW v (.ref p) h with | some k => .ok (.int k) h | none => .err
  | _, _, _ => .err

def setIt (o i v : W) (h : Hw) : Option Hw :=
  match o, i with
  | .ref p, .int k => match h[p]? with
    | some (.lst xs) => match ixN xs.length k with
      | some j => some (h.set p (.lst (xs.set j v)))
      | none => none
    | _ => none
  | _, _ => none

/-- an item of a list, from the front -/
def itemL (x y : W) (h : Hw) : Res W := match x, y with
  | .ref p, .int k => match h[p]? with
    | some (.lst xs) => if 0 ≤ k then (match xs[k.toNat]? with | some v => .ok v h | none => .err) else .err
    | _ => .err
  | _, _ => .err
def augO (p : Bop) (w v : W) : Option W := match p, w, v with
  | .add, .int a, .int b => some (.int (a + b))
  | .sub, .int a, .int b => some (.int (a - b))
  | _, _, _ => none
/-! ### the small language -/
/-- targets -/
inductive IG where
  | var (i : Nat)
  | tup (ts : List IG)
mutual
inductive IE where
  | var (i : Nat)
  | cst (w : W)
  | bin (o : Bop) (a b : IE)
  | neg (a : IE)
  | cmp (o : Cop) (a b : IE)
  | and (a b : IE) | or (a b : IE) | not (a : IT)
  | ite (c : IT) (a b : IE)
  | tup (es : IEs) | lst (es : IEs)
  | idx (a b : IE)
  | slc (a : IE) (lo hi : IP)
  | call (f : Nat) (es : IEs)
  | bi (f : Bi) (es : IEs)
  | bl (f : Bl) (l : IL)
  | mt (f : Mt) (o : IE) (es : IEs)
  | mk (l : IL)
  | lr1 (a : IE) | lr2 (a b : IE)
  | maxD (l : IL) (j : Int) | srt (l : IL) | aa (k : Bool) (l : IL) | tr2 (a b : IE) | glc (w : W) | rgN (a : IE) | srtD (l : IL)
inductive IEs where
  | nil | cons (e : IE) (es : IEs)
inductive IP where
  | no | at (e : IE)
/-- tests -/
inductive IT where
  | val (e : IE) | and (a b : IT) | or (a b : IT) | not (a : IT)
/-- a new list that only the place where it stands sees; or the items of a value -/
inductive IL where
  | of (e : IE)
  | disp (es : IEs)
  | comp (g : IG) (it : II) (ts : ITs) (elt : IE) (own : List Nat)
  | comp2 (g : IG) (it : II) (ts : ITs) (g2 : IG) (it2 : II) (ts2 : ITs) (elt : IE) (own own2 : List Nat)
inductive ITs where
  | nil | cons (t : IT) (ts : ITs)
/-- what is walked -/
inductive II where
  | of (l : IL)
  | rng1 (a : IE)
  | rng2 (a b : IE)
  | rng3 (a b : IE)
  | rgv (e : IE)
  | zip (a b : IL)
  | enum (a : IL)
end
mutual
inductive IS where
  | expr (e : IE)
  | asg (t : IG) (e : IE)
  | set (o i : IE) (e : IE)
  | aug (i : Nat) (o : Bop) (e : IE)
  | augS (o i : IE) (p : Bop) (e : IE)
  | bad
  | ifs (c : IT) (a b : ISs)
  | for (t : IG) (it : II) (b : ISs)
  | whl (c : IT) (b : ISs)
  | ret (e : IE)
  | retN
  | brk | cont | pass
inductive ISs where
  | nil | cons (s : IS) (ss : ISs)
end

/-! ### meaning -/
abbrev Fn := Nat → List W → Hw → Res W
mutual
def asg : IG → W → En → Option En
  | .var i, w, ρ => some (ρ.set i (some w))
  | .tup ts, .tup ws, ρ => if ts.length = ws.length then asgs ts ws ρ else none
  | _, _, _ => none
def asgs : List IG → List W → En → Option En
  | [], _, ρ => some ρ
  | t :: ts, w :: ws, ρ => match asg t w ρ with
    | some ρ' => asgs ts ws ρ'
    | none => none
  | _ :: _, [], _ => none
end
def wipe (ρ : En) : List Nat → En
  | [] => ρ
  | v :: vs => (wipe ρ vs).set v none

/-- the lists that a loop walks must stand as they were -/
abbrev Gu := List (Nat × List W)
def guOk (g : Gu) (h : Hw) : Prop := ∀ p ∈ g, h[p.1]? = some (.lst p.2)
open Classical in
noncomputable def guard {α : Type} (g : Gu) (h : Hw) (r : Res α) : Res α := if guOk g h then r else .err

/-- a comprehension's turns: from the items, the guards; no exception -/
noncomputable def compL (g : IG) (gu : Gu) (test : En → Hw → Res Bool) (elt : En → Hw → Res W) (own : List Nat) (ρ : En) : List W → Hw → List W → Res (List W)
  | [], h, acc => guard gu h (.ok acc h)
  | x :: xs, h, acc => guard gu h (match asg g x (wipe ρ own) with
    | none => .err
    | some ρ' => match test ρ' h with
      | .ok true h1 => match elt ρ' h1 with
        | .ok y h2 => if acc.length < lim then compL g gu test elt own ρ xs h2 (acc ++ [y]) else .err
        | _ => .err
      | .ok false h1 => compL g gu test elt own ρ xs h1 acc
      | _ => .err)

/-- two for: the outer turns; inner: the inner loop, from the list so far -/
noncomputable def compM (g : IG) (gu : Gu) (test : En → Hw → Res Bool) (inner : En → Hw → List W → Res (List W)) (own : List Nat) (ρ : En) : List W → Hw → List W → Res (List W)
  | [], h, acc => guard gu h (.ok acc h)
  | x :: xs, h, acc => guard gu h (match asg g x (wipe ρ own) with
    | none => .err
    | some ρ' => match test ρ' h with
      | .ok true h1 => match inner ρ' h1 acc with
        | .ok acc' h2 => compM g gu test inner own ρ xs h2 acc'
        | _ => .err
      | .ok false h1 => compM g gu test inner own ρ xs h1 acc
      | _ => .err)

/-- downwards -/
def rngd (lo : Int) (n : Nat) : List W := (List.range n).map fun (i : Nat) => .int (lo - (i : Int))
def rng (lo : Int) (n : Nat) : List W := (List.range n).map fun (i : Nat) => .int (lo + (i : Int))
def guOf (e : W) (xs : List W) : Gu := match e with
  | .ref n => [(n, xs)]
  | _ => []
def isTup : W → Bool
  | .tup _ => true
  | _ => false
mutual
noncomputable def evE (Φ : Fn) : IE → En → Hw → Res W
  | .var i, ρ, h => match ρ[i]? with
    | some (some w) => .ok w h
    | _ => .err
  | .cst w, _, h => .ok w h
  | .bin o a b, ρ, h => (evE Φ a ρ h).bind fun x h => (evE Φ b ρ h).bind fun y h => bop o x y h
  | .neg a, ρ, h => (evE Φ a ρ h).bind fun x h => match x with | .int i => .ok (.int (-i)) h | _ => .err
  | .cmp o a b, ρ, h => (evE Φ a ρ h).bind fun x h => (evE Φ b ρ h).bind fun y h => cmp o x y h
  | .and a b, ρ, h => (evE Φ a ρ h).bind fun x h => match truth x h with
    | some true => evE Φ b ρ h
    | some false => .ok x h
    | none => .err
  | .or a b, ρ, h => (evE Φ a ρ h).bind fun x h => match truth x h with
    | some true => .ok x h
    | some false => evE Φ b ρ h
    | none => .err
  | .not a, ρ, h => (evT Φ a ρ h).bind fun k h => .ok (.bl (!k)) h
  | .ite c a b, ρ, h => (evT Φ c ρ h).bind fun k h => if k = true then evE Φ a ρ h else evE Φ b ρ h
  | .tup es, ρ, h => (evEs Φ es ρ h).bind fun vs h => if vs.length ≤ lim then .ok (.tup vs) h else .err
  | .lst es, ρ, h => (evEs Φ es ρ h).bind fun vs h => if vs.length ≤ lim then .ok (.ref h.length) (h ++ [.lst vs]) else .err
  | .idx a b, ρ, h => (evE Φ a ρ h).bind fun x h => (evE Φ b ρ h).bind fun y h => item x y h
  | .slc a lo hi, ρ, h => (evE Φ a ρ h).bind fun x h => (evP Φ lo ρ h).bind fun l h => (evP Φ hi ρ h).bind fun u h => slice x l u h
  | .call f es, ρ, h => (evEs Φ es ρ h).bind fun vs h => Φ f vs h
  | .bi f es, ρ, h => (evEs Φ es ρ h).bind fun vs h => bi f vs h
  | .bl f l, ρ, h => (evL Φ l ρ h).bind fun q h => bl f q.1 h
  | .mt f o es, ρ, h => (evE Φ o ρ h).bind fun x h => match x with
    | .ref n => (match h[n]? with | some (.lst _) => (evEs Φ es ρ h).bind fun vs h => mt f x vs h | _ => .err)
    | _ => .err
  | .mk l, ρ, h => (evL Φ l ρ h).bind fun q h => .ok (.ref h.length) (h ++ [.lst q.1])
  | .lr1 a, ρ, h => (evE Φ a ρ h).bind fun x h => match x with
    | .int j => if -(2 ^ 62) ≤ j ∧ j ≤ 16777216 then .ok (.ref h.length) (h ++ [.lst (rng 0 (j - 0).toNat)]) else .err
    | _ => .err
  | .lr2 a b, ρ, h => (evE Φ a ρ h).bind fun x h => (evE Φ b ρ h).bind fun y h => match x, y with
    | .int i, .int j => if -(2 ^ 62) ≤ i ∧ i < 2 ^ 62 ∧ -(2 ^ 62) ≤ j ∧ j < 2 ^ 62 ∧ (j - i).toNat ≤ lim then .ok (.ref h.length) (h ++ [.lst (rng i (j - i).toNat)]) else .err
    | _, _ => .err
  | .maxD l j, ρ, h => (evL Φ l ρ h).bind fun q h => maxDf q.1 q.2.2 j h
  | .srt l, ρ, h => (evL Φ l ρ h).bind fun q h => srtf q.1 q.2.2 h
  | .aa k l, ρ, h => (evL Φ l ρ h).bind fun q h => aaf k q.1 q.2.2 h
  | .tr2 a b, ρ, h => (evE Φ a ρ h).bind fun x h => (evE Φ b ρ h).bind fun y h => match x, y with
    | .int i, .int j => if -(2 ^ 62) ≤ i ∧ i < 2 ^ 62 ∧ -(2 ^ 62) ≤ j ∧ j < 2 ^ 62 ∧ (j - i).toNat ≤ lim then .ok (.tup (rng i (j - i).toNat)) h else .err
    | _, _ => .err
  | .glc w, _, h => .ok w h
  | .rgN a, ρ, h => (evE Φ a ρ h).bind fun x h => match x with
    | .int j => .ok (.rg 0 j) h
    | _ => .err
  | .srtD l, ρ, h => (evL Φ l ρ h).bind fun q h => srtDf q.1 q.2.2 h
noncomputable def evEs (Φ : Fn) : IEs → En → Hw → Res (List W)
  | .nil, _, h => .ok [] h
  | .cons e es, ρ, h => (evE Φ e ρ h).bind fun x h => (evEs Φ es ρ h).bind fun xs h => .ok (x :: xs) h
noncomputable def evP (Φ : Fn) : IP → En → Hw → Res (Option Int)
  | .no, _, h => .ok none h
  | .at e, ρ, h => (evE Φ e ρ h).bind fun x h => match x with | .int i => .ok (some i) h | _ => .err
noncomputable def evT (Φ : Fn) : IT → En → Hw → Res Bool
  | .val e, ρ, h => (evE Φ e ρ h).bind fun x h => match truth x h with | some k => .ok k h | none => .err
  | .and a b, ρ, h => (evT Φ a ρ h).bind fun k h => if k = true then evT Φ b ρ h else .ok false h
  | .or a b, ρ, h => (evT Φ a ρ h).bind fun k h => if k = true then .ok true h else evT Φ b ρ h
  | .not a, ρ, h => (evT Φ a ρ h).bind fun k h => .ok (!k) h
/-- the items, and what must stay -/
noncomputable def evL (Φ : Fn) : IL → En → Hw → Res (List W × Gu × Bool)
  | .of e, ρ, h => (evE Φ e ρ h).bind fun x h => match seqOf h x with
    | some xs => .ok (xs, guOf x xs, isTup x) h
    | none => .err
  | .disp es, ρ, h => (evEs Φ es ρ h).bind fun vs h => if vs.length ≤ lim then .ok (vs, [], false) h else .err
  | .comp g it ts elt own, ρ, h => (evI Φ it ρ h).bind fun q h => (compL g q.2 (fun ρ h => evTs Φ ts ρ h) (fun ρ h => evE Φ elt ρ h) own ρ q.1 h []).bind fun ys h => .ok (ys, [], false) h
  | .comp2 g it ts g2 it2 ts2 elt own own2, ρ, h => (evI Φ it ρ h).bind fun q h => (compM g q.2 (fun ρ h => evTs Φ ts ρ h) (fun ρ h acc => (evI Φ it2 ρ h).bind fun q2 h => compL g2 q2.2 (fun ρ h => evTs Φ ts2 ρ h) (fun ρ h => evE Φ elt ρ h) own2 ρ q2.1 h acc) own ρ q.1 h []).bind fun ys h => .ok (ys, [], false) h
noncomputable def evTs (Φ : Fn) : ITs → En → Hw → Res Bool
  | .nil, _, h => .ok true h
  | .cons t ts, ρ, h => (evT Φ t ρ h).bind fun k h => if k = true then evTs Φ ts ρ h else .ok false h
noncomputable def evI (Φ : Fn) : II → En → Hw → Res (List W × Gu)
  | .of l, ρ, h => (evL Φ l ρ h).bind fun q h => .ok (q.1, q.2.1) h
  | .rng1 a, ρ, h => (evE Φ a ρ h).bind fun x h => match x with
    | .int j => if -(2 ^ 62) ≤ j ∧ j < 2 ^ 62 then .ok (rng 0 j.toNat, []) h else .err
    | _ => .err
  | .rng2 a b, ρ, h => (evE Φ a ρ h).bind fun x h => (evE Φ b ρ h).bind fun y h => match x, y with
    | .int i, .int j => if -(2 ^ 62) ≤ i ∧ i < 2 ^ 62 ∧ -(2 ^ 62) ≤ j ∧ j < 2 ^ 62 then .ok (rng i (j - i).toNat, []) h else .err
    | _, _ => .err
  | .rng3 a b, ρ, h => (evE Φ a ρ h).bind fun x h => (evE Φ b ρ h).bind fun y h => match x, y with
    | .int i, .int j => if -(2 ^ 62) ≤ i ∧ i < 2 ^ 62 ∧ -(2 ^ 62) ≤ j ∧ j < 2 ^ 62 then .ok (rngd i (i - j).toNat, []) h else .err
    | _, _ => .err
  | .rgv e, ρ, h => (evE Φ e ρ h).bind fun x h => match x with
    | .rg i j => if -(2 ^ 62) ≤ i ∧ i < 2 ^ 62 ∧ -(2 ^ 62) ≤ j ∧ j < 2 ^ 62 then .ok (rng i (j - i).toNat, []) h else .err
    | _ => .err
  | .zip a b, ρ, h => (evL Φ a ρ h).bind fun p h => (evL Φ b ρ h).bind fun q h => if p.2.2 = q.2.2 then .ok ((p.1.zip q.1).map fun z => .tup [z.1, z.2], p.2.1 ++ q.2.1) h else .err
  | .enum a, ρ, h => (evL Φ a ρ h).bind fun p h => if p.2.2 = false then .ok (((List.range p.1.length).zip p.1).map fun z => .tup [.int (z.1 : Nat), z.2], p.2.1) h else .err
end

/-- how a statement ends -/
inductive Fl where
  | next | brk | cont | ret (w : W) | rz (e : Ex)
/-- a statement's result: the flow, the names -/
abbrev Rs := Res (Fl × En)
def Res.st {α : Type} : Res α → En → (α → Hw → Rs) → Rs
  | .ok a h, _, f => f a h
  | .exc e h, ρ, _ => .ok (.rz e, ρ) h
  | .err, _, _ => .err
@[simp] theorem Res.st_ok {α : Type} (a : α) (h : Hw) (ρ : En) (f : α → Hw → Rs) : (Res.ok a h).st ρ f = f a h := rfl

noncomputable def forL (t : IG) (gu : Gu) (body : En → Hw → Rs) : List W → En → Hw → Rs
  | [], ρ, h => guard gu h (.ok (.next, ρ) h)
  | x :: xs, ρ, h => guard gu h (match asg t x ρ with
    | none => .err
    | some ρ' => match body ρ' h with
      | .ok (.next, ρ) h => forL t gu body xs ρ h
      | .ok (.cont, ρ) h => forL t gu body xs ρ h
      | .ok (.brk, ρ) h => .ok (.next, ρ) h
      | .ok (.ret w, ρ) h => .ok (.ret w, ρ) h
      | .ok (.rz e, ρ) h => .ok (.rz e, ρ) h
      | _ => .err)

/-- n turns of a while loop at most -/
noncomputable def whlN (c : En → Hw → Res Bool) (body : En → Hw → Rs) : Nat → En → Hw → Option Rs
  | 0, _, _ => none
  | n + 1, ρ, h => match c ρ h with
    | .ok true h1 => match body ρ h1 with
      | .ok (.next, ρ') h2 => whlN c body n ρ' h2
      | .ok (.cont, ρ') h2 => whlN c body n ρ' h2
      | .ok (.brk, ρ') h2 => some (.ok (.next, ρ') h2)
      | .ok (.ret w, ρ') h2 => some (.ok (.ret w, ρ') h2)
      | .ok (.rz e, ρ') h2 => some (.ok (.rz e, ρ') h2)
      | _ => some .err
    | .ok false h1 => some (.ok (.next, ρ) h1)
    | .exc e h1 => some (.ok (.rz e, ρ) h1)
    | .err => some .err
open Classical in
noncomputable def whl (c : En → Hw → Res Bool) (body : En → Hw → Rs) (ρ : En) (h : Hw) : Rs :=
  if x : ∃ n r, whlN c body n ρ h = some r then x.choose_spec.choose else .err

mutual
noncomputable def evS (Φ : Fn) : IS → En → Hw → Rs
  | .expr e, ρ, h => (evE Φ e ρ h).st ρ fun _ h => .ok (.next, ρ) h
  | .asg t e, ρ, h => (evE Φ e ρ h).st ρ fun x h => match asg t x ρ with
    | some ρ' => .ok (.next, ρ') h
    | none => .err
  | .set o i e, ρ, h => (evE Φ e ρ h).st ρ fun v h => (evE Φ o ρ h).st ρ fun x h => (evE Φ i ρ h).st ρ fun y h => match setIt x y v h with
    | some h' => .ok (.next, ρ) h'
    | none => .err
  | .aug i o e, ρ, h => match ρ[i]? with
    | some (some x) => (evE Φ e ρ h).st ρ fun y h => match o, x, y with
      | .add, .int a, .int b => .ok (.next, ρ.set i (some (.int (a + b)))) h
      | .sub, .int a, .int b => .ok (.next, ρ.set i (some (.int (a - b)))) h
      | _, _, _ => .err
    | _ => .err
  | .augS o i p e, ρ, h => (evE Φ o ρ h).st ρ fun x h => (evE Φ i ρ h).st ρ fun y h => (itemL x y h).st ρ fun w h => (evE Φ e ρ h).st ρ fun v h => match augO p w v with
    | some z => (match setIt x y z h with
      | some h' => .ok (.next, ρ) h'
      | none => .err)
    | none => .err
  | .bad, _, _ => .err
  | .ifs c a b, ρ, h => (evT Φ c ρ h).st ρ fun k h => if k = true then evSs Φ a ρ h else evSs Φ b ρ h
  | .for t it b, ρ, h => (evI Φ it ρ h).st ρ fun q h => forL t q.2 (fun ρ h => evSs Φ b ρ h) q.1 ρ h
  | .whl c b, ρ, h => whl (fun ρ h => evT Φ c ρ h) (fun ρ h => evSs Φ b ρ h) ρ h
  | .ret e, ρ, h => (evE Φ e ρ h).st ρ fun x h => .ok (.ret x, ρ) h
  | .retN, ρ, h => .ok (.ret .non, ρ) h
  | .brk, ρ, h => .ok (.brk, ρ) h
  | .cont, ρ, h => .ok (.cont, ρ) h
  | .pass, ρ, h => .ok (.next, ρ) h
noncomputable def evSs (Φ : Fn) : ISs → En → Hw → Rs
  | .nil, ρ, h => .ok (.next, ρ) h
  | .cons s ss, ρ, h => match evS Φ s ρ h with
    | .ok (.next, ρ) h => evSs Φ ss ρ h
    | .ok (f, ρ) h => .ok (f, ρ) h
    | _ => .err
end

/-! ### calls of defs -/
mutual
def W.blw (n : Nat) : W → Prop
  | .ref k => k < n
  | .tup xs => W.blws n xs
  | .fl xs => W.blws n xs
  | _ => True
def W.blws (n : Nat) : List W → Prop
  | [] => True
  | x :: xs => W.blw n x ∧ W.blws n xs
end
def O.blw (n : Nat) : O → Prop
  | .lst xs => W.blws n xs
  | .dic kvs => W.blws n (kvs.map (·.1)) ∧ W.blws n (kvs.map (·.2))
/-- the elder objects know nothing of the younger ones -/
def OldOk (h h' : Hw) : Prop := h.length ≤ h'.length ∧ ∀ i o, i < h.length → h'[i]? = some o → h[i]? = some o ∨ o.blw h.length
open Classical in
/-- behind a call what nobody sees is forgotten -/
noncomputable def tidy (h : Hw) (w : W) (h' : Hw) : Res W :=
  if OldOk h h' then
    if w.blw h.length then .ok w (h'.take h.length)
    else match w with
      | .ref p => match h'[p]? with
        | some o => if o.blw h.length then .ok (.ref h.length) (h'.take h.length ++ [o]) else .ok w h'
        | none => .ok w h'
      | _ => .ok w h'
  else .ok w h'

structure Df where
  np : Nat
  ns : Nat
  body : ISs

noncomputable def runDf (Φ : Fn) (d : Df) (vs : List W) (h : Hw) : Res W :=
  if vs.length = d.np then
    match evSs Φ d.body (vs.map some ++ List.replicate (d.ns - d.np) none) h with
    | .ok (.ret w, _) h' => tidy h w h'
    | .ok (.next, _) h' => tidy h .non h'
    | .ok (.rz e, _) h' => .exc e h'
    | _ => .err
  else .err
noncomputable def PhiN (ds : List Df) : Nat → Fn
  | 0 => fun _ _ _ => .err
  | k + 1 => fun f vs h => match ds[f]? with
    | some d => runDf (PhiN ds k) d vs h
    | none => .err
termination_by k => k
theorem PhiN_z {ds : List Df} {f : Nat} {vs : List W} {h : Hw} : PhiN ds 0 f vs h = .err := by rw [PhiN]
theorem PhiN_s {ds : List Df} {k f : Nat} {vs : List W} {h : Hw} {d : Df} (e : ds[f]? = some d) : PhiN ds (k + 1) f vs h = runDf (PhiN ds k) d vs h := by
  rw [PhiN]
  show (match ds[f]? with | some d => runDf (PhiN ds k) d vs h | none => .err) = _
  rw [e]
end Ev

set_option Elab.async false
set_option linter.all false
set_option maxRecDepth 100000
/-! Ev2: how the values and the heap lie in the hand layer's abstract heap; steps; readings. -/
namespace Ev
open PySem PySem.Spec PyProof.Rows L2

/-! ### representation -/
def ConT (K : PySem.W.Frag) (a : Addr) (xs : List V) : Prop :=
  ∃ (o : Obj) (its : Array Value) (n : Nat), K.lookup a = some o ∧ o.cls = .type "tuple" ∧ o.data = .seq its n ∧ its.size ≤ sizeLine ∧ Vals xs its.toList
def ConL (K : PySem.W.Frag) (a : Addr) (xs : List V) : Prop :=
  ∃ (o : Obj) (its : Array Value) (n : Nat), K.lookup a = some o ∧ o.cls = .type "list" ∧ o.dict = none ∧ o.data = .seq its n ∧ its.size ≤ sizeLine ∧ Vals xs its.toList
/-- a tuple, a frozen list: it stays -/
def StT (K : PySem.W.Frag) (H : Hp) (m : List Addr) (a : Addr) (xs : List V) : Prop := (Rd H a (.tup xs) ∧ a ∉ m) ∨ ConT K a xs
/-- a frozen list, a list of the text -/
def StL (K : PySem.W.Frag) (H : Hp) (m : List Addr) (a : Addr) (xs : List V) : Prop := ((∃ o, H a = some (.frz o (.lst xs))) ∧ a ∉ m) ∨ ConL K a xs
/-- a list in the air: nobody else sees it -/
def Air (H : Hp) (m : List Addr) (a : Addr) (xs : List V) : Prop := H a = some (.lst xs) ∧ a ∉ m
theorem StT.sq {K : PySem.W.Frag} {H : Hp} {m : List Addr} {a : Addr} {xs : List V} (h : StT K H m a xs) : SqT K H a xs := h.elim (fun x => .inl x.1) .inr
theorem StL.sq {K : PySem.W.Frag} {H : Hp} {m : List Addr} {a : Addr} {xs : List V} (h : StL K H m a xs) : SqL K H a xs := h.elim (fun x => .inl (.inr x.1)) .inr

mutual
def Rep (K : PySem.W.Frag) (H : Hp) (m : List Addr) : W → V → Prop
  | .non, v => v = .non
  | .bl b, v => v = .bl b
  | .int i, v => v = .int i
  | .str x, v => v = .str x
  | .tup xs, v => ∃ a vs, v = .ref a ∧ StT K H m a vs ∧ RepL K H m xs vs
  | .fl xs, v => ∃ a vs, v = .ref a ∧ StL K H m a vs ∧ RepL K H m xs vs
  | .ref n, v => ∃ a, m[n]? = some a ∧ v = .ref a
  | .rg i j, v => ∃ a, v = .ref a ∧ H a = some (.rng i j) ∧ a ∉ m
def RepL (K : PySem.W.Frag) (H : Hp) (m : List Addr) : List W → List V → Prop
  | [], vs => vs = []
  | x :: xs, vs => ∃ v r, vs = v :: r ∧ Rep K H m x v ∧ RepL K H m xs r
end
def RepO (K : PySem.W.Frag) (H : Hp) (m : List Addr) (a : Addr) : O → Prop
  | .lst xs => ∃ vs, H a = some (.lst vs) ∧ RepL K H m xs vs
  | .dic _ => False
structure RelH (K : PySem.W.Frag) (m : List Addr) (H : Hp) (h : Hw) : Prop where
  nd : m.Nodup
  len : m.length = h.length
  obj : ∀ (n : Nat) (a : Addr) (o : O), m[n]? = some a → h[n]? = some o → RepO K H m a o
def RepS (K : PySem.W.Frag) (H : Hp) (m : List Addr) : En → L2.St → Prop
  | [], σ => σ = []
  | none :: ρ, σ => ∃ x r, σ = x :: r ∧ RepS K H m ρ r
  | some w :: ρ, σ => ∃ v r, σ = some v :: r ∧ Rep K H m w v ∧ RepS K H m ρ r
/-- a step from (m, H) to (m', H') -/
structure Nx (m : List Addr) (H : Hp) (m' : List Addr) (H' : Hp) : Prop where
  pre : ∃ r, m' = m ++ r
  fr : ∀ a o, H a = some o → a ∉ m → H' a = some o
  new : ∀ a ∈ m', a ∉ m → H a = none
section
variable {K : PySem.W.Frag} {m m' m1 m2 : List Addr} {H H' H1 H2 : Hp} {h h' h1 : Hw} {a : Addr}
theorem Nx.refl : Nx m H m H := ⟨⟨[], by simp⟩, fun _ _ e _ => e, fun _ h1 h2 => absurd h1 h2⟩
theorem Nx.sub (x : Nx m H m' H') {b : Addr} (h : b ∈ m) : b ∈ m' := by
  obtain ⟨r, rfl⟩ := x.pre
  exact List.mem_append_left _ h
theorem Nx.out (x : Nx m H m' H') {b : Addr} {o : HO} (e : H b = some o) (h : b ∉ m) : b ∉ m' := fun z => by
  have := x.new b z h
  rw [e] at this; cases this
theorem Nx.trans (x : Nx m H m1 H1) (y : Nx m1 H1 m2 H2) : Nx m H m2 H2 where
  pre := by
    obtain ⟨r, rfl⟩ := x.pre
    obtain ⟨t, rfl⟩ := y.pre
    exact ⟨r ++ t, by rw [List.append_assoc]⟩
  fr := fun b o e hb => y.fr b o (x.fr b o e hb) (x.out e hb)
  new := fun b hb hm => by
    by_cases h1 : b ∈ m1
    · exact x.new b h1 hm
    · cases e : H b with
      | none => rfl
      | some o =>
        have := y.new b hb h1
        rw [x.fr b o e hm] at this; cases this
theorem Nx.get (x : Nx m H m' H') {n : Nat} (e : m[n]? = some a) : m'[n]? = some a := by
  obtain ⟨r, rfl⟩ := x.pre
  rw [List.getElem?_append_left (List.getElem?_eq_some_iff.mp e).1]; exact e
theorem Nx.rd (x : Nx m H m' H') {u : HO} (r : Rd H a u) (ha : a ∉ m) : Rd H' a u := by
  rcases r with r | ⟨o, r⟩
  · exact .inl (x.fr _ _ r ha)
  · exact .inr ⟨o, x.fr _ _ r ha⟩
theorem Nx.rdo (x : Nx m H m' H') {u : HO} (r : Rd H a u) (ha : a ∉ m) : a ∉ m' := by
  rcases r with r | ⟨o, r⟩
  · exact x.out r ha
  · exact x.out r ha
theorem StT.mono (x : Nx m H m' H') {vs : List V} (s : StT K H m a vs) : StT K H' m' a vs :=
  s.elim (fun z => .inl ⟨x.rd z.1 z.2, x.rdo z.1 z.2⟩) .inr
theorem StL.mono (x : Nx m H m' H') {vs : List V} (s : StL K H m a vs) : StL K H' m' a vs :=
  s.elim (fun ⟨⟨o, z⟩, n⟩ => .inl ⟨⟨o, x.fr _ _ z n⟩, x.out z n⟩) .inr
theorem Air.mono (x : Nx m H m' H') {vs : List V} (s : Air H m a vs) : Air H' m' a vs := ⟨x.fr _ _ s.1 s.2, x.out s.1 s.2⟩
mutual
theorem Rep.mono (x : Nx m H m' H') : ∀ {w : W} {v : V}, Rep K H m w v → Rep K H' m' w v
  | .non, _, r => by unfold Rep at r ⊢; exact r
  | .bl _, _, r => by unfold Rep at r ⊢; exact r
  | .int _, _, r => by unfold Rep at r ⊢; exact r
  | .str _, _, r => by unfold Rep at r ⊢; exact r
  | .tup xs, _, r => by
    unfold Rep at r ⊢
    obtain ⟨a, vs, e, s, q⟩ := r
    exact ⟨a, vs, e, s.mono x, RepL.mono x q⟩
  | .fl xs, _, r => by
    unfold Rep at r ⊢
    obtain ⟨a, vs, e, s, q⟩ := r
    exact ⟨a, vs, e, s.mono x, RepL.mono x q⟩
  | .ref n, _, r => by
    unfold Rep at r ⊢
    obtain ⟨a, e, q⟩ := r
    exact ⟨a, x.get e, q⟩
  | .rg _ _, _, r => by
    unfold Rep at r ⊢
    obtain ⟨a, e, q, n⟩ := r
    exact ⟨a, e, x.fr _ _ q n, x.out q n⟩
theorem RepL.mono (x : Nx m H m' H') : ∀ {ws : List W} {vs : List V}, RepL K H m ws vs → RepL K H' m' ws vs
  | [], _, r => by unfold RepL at r ⊢; exact r
  | w :: ws, _, r => by
    unfold RepL at r ⊢
    obtain ⟨v, q, e, r1, r2⟩ := r
    exact ⟨v, q, e, Rep.mono x r1, RepL.mono x r2⟩
end
theorem RepS.mono (x : Nx m H m' H') : ∀ {ρ : En} {σ : L2.St}, RepS K H m ρ σ → RepS K H' m' ρ σ
  | [], _, r => by unfold RepS at r ⊢; exact r
  | none :: ρ, _, r => by
    unfold RepS at r ⊢
    obtain ⟨y, q, e, r2⟩ := r
    exact ⟨y, q, e, RepS.mono x r2⟩
  | some w :: ρ, _, r => by
    unfold RepS at r ⊢
    obtain ⟨v, q, e, r1, r2⟩ := r
    exact ⟨v, q, e, r1.mono x, RepS.mono x r2⟩
theorem RepL.len : ∀ {ws : List W} {vs : List V}, RepL K H m ws vs → ws.length = vs.length
  | [], _, r => by unfold RepL at r; subst r; rfl
  | w :: ws, _, r => by
    unfold RepL at r
    obtain ⟨v, q, rfl, r1, r2⟩ := r
    simp [RepL.len r2]
theorem RepL.nil : RepL K H m [] [] := by unfold RepL; rfl
theorem RepL.cons {w : W} {v : V} {ws : List W} {vs : List V} (a : Rep K H m w v) (b : RepL K H m ws vs) : RepL K H m (w :: ws) (v :: vs) := by unfold RepL; exact ⟨v, vs, rfl, a, b⟩
theorem RepL.one {w : W} {vs : List V} (r : RepL K H m [w] vs) : ∃ v, vs = [v] ∧ Rep K H m w v := by
  unfold RepL at r
  obtain ⟨v, q, rfl, r1, r2⟩ := r
  unfold RepL at r2; subst r2
  exact ⟨v, rfl, r1⟩
theorem RepL.two {w u : W} {vs : List V} (r : RepL K H m [w, u] vs) : ∃ v z, vs = [v, z] ∧ Rep K H m w v ∧ Rep K H m u z := by
  unfold RepL at r
  obtain ⟨v, q, rfl, r1, r2⟩ := r
  obtain ⟨z, rfl, r3⟩ := r2.one
  exact ⟨v, z, rfl, r1, r3⟩
theorem RepL.uncons {w : W} {ws : List W} {vs : List V} (r : RepL K H m (w :: ws) vs) : ∃ v q, vs = v :: q ∧ Rep K H m w v ∧ RepL K H m ws q := by
  unfold RepL at r; exact r
theorem RepL.get : ∀ {ws : List W} {vs : List V} {i : Nat} {w : W}, RepL K H m ws vs → ws[i]? = some w → ∃ v, vs[i]? = some v ∧ Rep K H m w v
  | [], _, _, _, _, e => by simp at e
  | x :: xs, _, 0, w, r, e => by
    obtain ⟨v, q, rfl, r1, r2⟩ := r.uncons
    simp at e; subst e
    exact ⟨v, rfl, r1⟩
  | x :: xs, _, i + 1, w, r, e => by
    obtain ⟨v, q, rfl, r1, r2⟩ := r.uncons
    obtain ⟨u, e2, r3⟩ := RepL.get (i := i) r2 (by simpa using e)
    exact ⟨u, by simpa using e2, r3⟩
theorem RepL.getV : ∀ {ws : List W} {vs : List V} {i : Nat} {v : V}, RepL K H m ws vs → vs[i]? = some v → ∃ w, ws[i]? = some w ∧ Rep K H m w v := fun {ws vs i v} r e => by
  have hl := r.len
  have hi : i < ws.length := by rw [hl]; exact (List.getElem?_eq_some_iff.mp e).1
  obtain ⟨u, e2, r2⟩ := r.get (List.getElem?_eq_getElem hi)
  rw [e] at e2; cases e2
  exact ⟨_, List.getElem?_eq_getElem hi, r2⟩
theorem RepL.append : ∀ {ws us : List W} {vs zs : List V}, RepL K H m ws vs → RepL K H m us zs → RepL K H m (ws ++ us) (vs ++ zs)
  | [], _, _, _, r, s => by unfold RepL at r; subst r; exact s
  | w :: ws, _, _, _, r, s => by
    obtain ⟨v, q, rfl, r1, r2⟩ := r.uncons
    exact .cons r1 (RepL.append r2 s)
theorem RepL.take : ∀ {ws : List W} {vs : List V} (n : Nat), RepL K H m ws vs → RepL K H m (ws.take n) (vs.take n)
  | _, _, 0, _ => by simp; exact .nil
  | [], _, n + 1, r => by unfold RepL at r; subst r; exact .nil
  | w :: ws, _, n + 1, r => by
    obtain ⟨v, q, rfl, r1, r2⟩ := r.uncons
    exact .cons r1 (RepL.take n r2)
theorem RepL.drop : ∀ {ws : List W} {vs : List V} (n : Nat), RepL K H m ws vs → RepL K H m (ws.drop n) (vs.drop n)
  | _, _, 0, r => r
  | [], _, n + 1, r => by unfold RepL at r; subst r; exact .nil
  | w :: ws, _, n + 1, r => by
    obtain ⟨v, q, rfl, r1, r2⟩ := r.uncons
    exact RepL.drop n r2
theorem RepL.set {w : W} {v : V} (z : Rep K H m w v) : ∀ {ws : List W} {vs : List V} (n : Nat), RepL K H m ws vs → RepL K H m (ws.set n w) (vs.set n v)
  | [], _, _, r => by unfold RepL at r; subst r; exact .nil
  | _ :: _, _, 0, r => by
    obtain ⟨v, q, rfl, r1, r2⟩ := r.uncons
    exact .cons z r2
  | _ :: _, _, n + 1, r => by
    obtain ⟨v, q, rfl, r1, r2⟩ := r.uncons
    exact .cons r1 (RepL.set z n r2)
theorem RepL.eraseIdx : ∀ {ws : List W} {vs : List V} (n : Nat), RepL K H m ws vs → RepL K H m (ws.eraseIdx n) (vs.eraseIdx n)
  | [], _, _, r => by unfold RepL at r; subst r; exact .nil
  | _ :: _, _, 0, r => by
    obtain ⟨v, q, rfl, r1, r2⟩ := r.uncons
    exact r2
  | _ :: _, _, n + 1, r => by
    obtain ⟨v, q, rfl, r1, r2⟩ := r.uncons
    exact .cons r1 (RepL.eraseIdx n r2)
theorem RepL.rep {ws : List W} {vs : List V} (r : RepL K H m ws vs) : ∀ k : Nat, RepL K H m (List.replicate k ws).flatten (List.replicate k vs).flatten
  | 0 => .nil
  | k + 1 => by
    rw [List.replicate_succ, List.replicate_succ, List.flatten_cons, List.flatten_cons]
    exact r.append (RepL.rep r k)
theorem RepL.dropLast {ws : List W} {vs : List V} (r : RepL K H m ws vs) : RepL K H m ws.dropLast vs.dropLast := by
  rw [List.dropLast_eq_take, List.dropLast_eq_take, r.len]; exact r.take _
theorem RepS.len : ∀ {ρ : En} {σ : L2.St}, RepS K H m ρ σ → ρ.length = σ.length
  | [], _, r => by unfold RepS at r; subst r; rfl
  | none :: ρ, _, r => by
    unfold RepS at r
    obtain ⟨y, q, rfl, r2⟩ := r
    simp [RepS.len r2]
  | some w :: ρ, _, r => by
    unfold RepS at r
    obtain ⟨y, q, rfl, _, r2⟩ := r
    simp [RepS.len r2]
theorem RepS.get : ∀ {ρ : En} {σ : L2.St} {i : Nat} {w : W}, RepS K H m ρ σ → ρ[i]? = some (some w) → ∃ v, σ[i]? = some (some v) ∧ Rep K H m w v
  | [], _, _, _, _, e => by simp at e
  | x :: xs, _, 0, w, r, e => by
    simp at e; subst e
    unfold RepS at r
    obtain ⟨v, q, rfl, r1, r2⟩ := r
    exact ⟨v, rfl, r1⟩
  | none :: xs, _, i + 1, w, r, e => by
    unfold RepS at r
    obtain ⟨y, q, rfl, r2⟩ := r
    obtain ⟨u, e2, r3⟩ := RepS.get (i := i) r2 (by simpa using e)
    exact ⟨u, by simpa using e2, r3⟩
  | some _ :: xs, _, i + 1, w, r, e => by
    unfold RepS at r
    obtain ⟨y, q, rfl, _, r2⟩ := r
    obtain ⟨u, e2, r3⟩ := RepS.get (i := i) r2 (by simpa using e)
    exact ⟨u, by simpa using e2, r3⟩
theorem RepS.setS {w : W} {v : V} (z : Rep K H m w v) : ∀ {ρ : En} {σ : L2.St} (i : Nat), RepS K H m ρ σ → RepS K H m (ρ.set i (some w)) (σ.set i (some v))
  | [], _, _, r => by unfold RepS at r; subst r; show RepS K H m [] []; unfold RepS; rfl
  | none :: ρ, _, 0, r => by
    unfold RepS at r
    obtain ⟨y, q, rfl, r2⟩ := r
    show RepS K H m (some w :: ρ) (some v :: q)
    unfold RepS; exact ⟨v, q, rfl, z, r2⟩
  | some _ :: ρ, _, 0, r => by
    unfold RepS at r
    obtain ⟨y, q, rfl, _, r2⟩ := r
    show RepS K H m (some w :: ρ) (some v :: q)
    unfold RepS; exact ⟨v, q, rfl, z, r2⟩
  | none :: ρ, _, i + 1, r => by
    unfold RepS at r
    obtain ⟨y, q, rfl, r2⟩ := r
    show RepS K H m (none :: ρ.set i (some w)) (y :: q.set i (some v))
    unfold RepS; exact ⟨_, _, rfl, RepS.setS z i r2⟩
  | some u :: ρ, _, i + 1, r => by
    unfold RepS at r
    obtain ⟨y, q, rfl, r1, r2⟩ := r
    show RepS K H m (some u :: ρ.set i (some w)) (some y :: q.set i (some v))
    unfold RepS; exact ⟨_, _, rfl, r1, RepS.setS z i r2⟩
theorem RepS.setN {y : Option V} : ∀ {ρ : En} {σ : L2.St} (i : Nat), RepS K H m ρ σ → RepS K H m (ρ.set i none) (σ.set i y)
  | [], _, _, r => by unfold RepS at r; subst r; show RepS K H m [] []; unfold RepS; rfl
  | none :: ρ, _, 0, r => by
    unfold RepS at r
    obtain ⟨y, q, rfl, r2⟩ := r
    show RepS K H m (none :: ρ) (_ :: q)
    unfold RepS; exact ⟨_, q, rfl, r2⟩
  | some _ :: ρ, _, 0, r => by
    unfold RepS at r
    obtain ⟨y, q, rfl, _, r2⟩ := r
    show RepS K H m (none :: ρ) (_ :: q)
    unfold RepS; exact ⟨_, q, rfl, r2⟩
  | none :: ρ, _, i + 1, r => by
    unfold RepS at r
    obtain ⟨y, q, rfl, r2⟩ := r
    show RepS K H m (none :: ρ.set i none) (y :: q.set i _)
    unfold RepS; exact ⟨_, _, rfl, RepS.setN i r2⟩
  | some u :: ρ, _, i + 1, r => by
    unfold RepS at r
    obtain ⟨y, q, rfl, r1, r2⟩ := r
    show RepS K H m (some u :: ρ.set i none) (some y :: q.set i _)
    unfold RepS; exact ⟨_, _, rfl, r1, RepS.setN i r2⟩
theorem RepS.wipe {ρ : En} {σ : L2.St} (r : RepS K H m ρ σ) : ∀ vs : List Nat, RepS K H m (Ev.wipe ρ vs) (L2.wipe σ vs)
  | [] => r
  | v :: vs => by
    show RepS K H m ((Ev.wipe ρ vs).set v none) ((L2.wipe σ vs).set v none)
    exact (RepS.wipe r vs).setN v
theorem RepS.start : ∀ {ws : List W} {vs : List V} (n : Nat), RepL K H m ws vs → RepS K H m (ws.map some ++ List.replicate n none) (vs.map some ++ List.replicate n none)
  | [], _, n, r => by
    unfold RepL at r; subst r
    show RepS K H m (List.replicate n none) (List.replicate n none)
    induction n with
    | zero => show RepS K H m [] []; unfold RepS; rfl
    | succ n ih => rw [List.replicate_succ, List.replicate_succ]; unfold RepS; exact ⟨_, _, rfl, ih⟩
  | w :: ws, _, n, r => by
    obtain ⟨v, q, rfl, r1, r2⟩ := r.uncons
    show RepS K H m (some w :: (ws.map some ++ List.replicate n none)) (some v :: (q.map some ++ List.replicate n none))
    unfold RepS; exact ⟨_, _, rfl, r1, RepS.start n r2⟩

/-! ### heaps -/
theorem RelH.hit (x : RelH K m H h) {b : Addr} (hb : b ∈ m) : ∃ vs, H b = some (.lst vs) := by
  obtain ⟨n, hn, e⟩ := List.mem_iff_getElem.mp hb
  have hn2 : n < h.length := by rw [← x.len]; exact hn
  have q := x.obj n b h[n] (by rw [List.getElem?_eq_getElem hn, e]) (List.getElem?_eq_getElem hn2)
  cases eo : h[n] with
  | lst xs =>
    rw [eo] at q
    obtain ⟨vs, e, _⟩ := q
    exact ⟨vs, e⟩
  | dic _ => rw [eo] at q; exact q.elim
theorem RelH.free (x : RelH K m H h) {b : Addr} (e : H b = none) : b ∉ m := fun hb => by
  obtain ⟨vs, q⟩ := x.hit hb
  rw [e] at q; cases q
theorem RelH.at (x : RelH K m H h) {n : Nat} {o : O} (e : h[n]? = some o) : ∃ b, m[n]? = some b ∧ RepO K H m b o := by
  have hn : n < m.length := by rw [x.len]; exact (List.getElem?_eq_some_iff.mp e).1
  exact ⟨m[n], List.getElem?_eq_getElem hn, x.obj n _ o (List.getElem?_eq_getElem hn) e⟩
theorem RelH.lst (x : RelH K m H h) {n : Nat} {xs : List W} (e : h[n]? = some (.lst xs)) {b : Addr} (q : m[n]? = some b) : ∃ vs, H b = some (.lst vs) ∧ RepL K H m xs vs := x.obj n b _ q e
theorem RepO.mono (x : Nx m H m' H') {b : Addr} {o : O} (e : H' b = H b) (r : RepO K H m b o) : RepO K H' m' b o := by
  cases o with
  | lst xs =>
    obtain ⟨vs, e1, r1⟩ := r
    exact ⟨vs, e.trans e1, r1.mono x⟩
  | dic _ => exact r.elim
/-- a new object that nobody of m tracks (a tuple, a list in the air) -/
theorem Nx.laid (hn : H a = none) {o : HO} : Nx m H m (upd H a o) :=
  ⟨⟨[], by simp⟩, fun b u e _ => by rw [upd_ne (ne_of_none e hn)]; exact e, fun _ h1 h2 => absurd h1 h2⟩
theorem RelH.laid (x : RelH K m H h) (hn : H a = none) {o : HO} : RelH K m (upd H a o) h :=
  ⟨x.nd, x.len, fun n b u e1 e2 => (x.obj n b u e1 e2).mono (Nx.laid hn) (upd_ne fun z => x.free hn (z ▸ List.mem_of_getElem? e1))⟩
theorem Nx.grow (x : RelH K m H h) (hn : H a = none) {o : HO} : Nx m H (m ++ [a]) (upd H a o) :=
  ⟨⟨[a], rfl⟩, fun b u e _ => by rw [upd_ne (ne_of_none e hn)]; exact e, fun b h1 h2 => by
    rcases List.mem_append.mp h1 with z | z
    · exact absurd z h2
    · rw [List.mem_singleton.mp z]; exact hn⟩
theorem RelH.grow (x : RelH K m H h) (hn : H a = none) {xs : List W} {vs : List V} (r : RepL K H m xs vs) : RelH K (m ++ [a]) (upd H a (.lst vs)) (h ++ [.lst xs]) := by
  have g := Nx.grow x hn (o := .lst vs)
  refine ⟨?_, by simp [x.len], fun n b u e1 e2 => ?_⟩
  · rw [List.nodup_append]
    refine ⟨x.nd, by simp, fun b hb c hc => ?_⟩
    rw [List.mem_singleton.mp hc]
    exact fun z => x.free hn (z ▸ hb)
  · by_cases hl : n < m.length
    · rw [List.getElem?_append_left hl] at e1
      rw [List.getElem?_append_left (by rw [← x.len]; exact hl)] at e2
      exact (x.obj n b u e1 e2).mono g (upd_ne fun z => x.free hn (z ▸ List.mem_of_getElem? e1))
    · rw [List.getElem?_append_right (by omega)] at e1
      rw [List.getElem?_append_right (by rw [← x.len]; omega)] at e2
      have e3 : n - m.length = 0 := by
        have := (List.getElem?_eq_some_iff.mp e1).1
        simp at this; omega
      have e4 : n - h.length = 0 := by rw [← x.len]; exact e3
      rw [e3] at e1; rw [e4] at e2
      simp at e1 e2
      subst e1; subst e2
      exact ⟨vs, upd_same, r.mono g⟩
/-- an object of ours is changed -/
theorem Nx.put (hm : a ∈ m) {o : HO} : Nx m H m (upd H a o) :=
  ⟨⟨[], by simp⟩, fun b u e hb => by rw [upd_ne (fun z => hb (by rw [z]; exact hm))]; exact e, fun _ h1 h2 => absurd h1 h2⟩
theorem nodup_ix {α : Type} {l : List α} (nd : l.Nodup) {i j : Nat} {x : α} (h1 : l[i]? = some x) (h2 : l[j]? = some x) : i = j := by
  obtain ⟨a1, b1⟩ := List.getElem?_eq_some_iff.mp h1
  obtain ⟨a2, b2⟩ := List.getElem?_eq_some_iff.mp h2
  exact (List.getElem_inj nd).mp (b1.trans b2.symm)
theorem RelH.put (x : RelH K m H h) {n : Nat} (e : m[n]? = some a) {xs : List W} {vs : List V} (r : RepL K H m xs vs) : RelH K m (upd H a (.lst vs)) (h.set n (.lst xs)) := by
  have hm := List.mem_of_getElem? e
  refine ⟨x.nd, by simp [x.len], fun i b u e1 e2 => ?_⟩
  by_cases hi : i = n
  · subst hi
    rw [e] at e1; cases e1
    have hl : i < h.length := by rw [← x.len]; exact (List.getElem?_eq_some_iff.mp e).1
    rw [List.getElem?_set_self hl] at e2
    cases e2
    exact ⟨vs, upd_same, r.mono (Nx.put hm)⟩
  · rw [List.getElem?_set_ne (Ne.symm hi)] at e2
    exact (x.obj i b u e1 e2).mono (Nx.put hm) (upd_ne fun z => hi (nodup_ix x.nd e1 (z ▸ e)))
end

section
variable {K : PySem.W.Frag} {m m' : List Addr} {H H' : Hp} {h : Hw} {D : Addr}
/-- a list in the air is changed -/
theorem StT.air {a : Addr} {vs ys zs : List V} (hD : H D = some (.lst ys)) (s : StT K H m a vs) : StT K (upd H D (.lst zs)) m a vs := by
  rcases s with ⟨r, n⟩ | s
  · refine .inl ⟨?_, n⟩
    rcases r with r | ⟨o, r⟩
    · exact .inl (by rw [upd_ne (ne_of r hD (fun z => by cases z))]; exact r)
    · exact .inr ⟨o, by rw [upd_ne (ne_of r hD (fun z => by cases z))]; exact r⟩
  · exact .inr s
theorem StL.air {a : Addr} {vs ys zs : List V} (hD : H D = some (.lst ys)) (s : StL K H m a vs) : StL K (upd H D (.lst zs)) m a vs := by
  rcases s with ⟨⟨o, r⟩, n⟩ | s
  · exact .inl ⟨⟨o, by rw [upd_ne (ne_of r hD (fun z => by cases z))]; exact r⟩, n⟩
  · exact .inr s
mutual
theorem Rep.air {ys zs : List V} (hD : H D = some (.lst ys)) : ∀ {w : W} {v : V}, Rep K H m w v → Rep K (upd H D (.lst zs)) m w v
  | .non, _, r => by unfold Rep at r ⊢; exact r
  | .bl _, _, r => by unfold Rep at r ⊢; exact r
  | .int _, _, r => by unfold Rep at r ⊢; exact r
  | .str _, _, r => by unfold Rep at r ⊢; exact r
  | .tup xs, _, r => by
    unfold Rep at r ⊢
    obtain ⟨a, vs, e, s, q⟩ := r
    exact ⟨a, vs, e, s.air hD, RepL.air hD q⟩
  | .fl xs, _, r => by
    unfold Rep at r ⊢
    obtain ⟨a, vs, e, s, q⟩ := r
    exact ⟨a, vs, e, s.air hD, RepL.air hD q⟩
  | .ref n, _, r => by unfold Rep at r ⊢; exact r
  | .rg _ _, _, r => by
    unfold Rep at r ⊢
    obtain ⟨a, e, q, n⟩ := r
    exact ⟨a, e, by rw [upd_ne (ne_of q hD (fun z => by cases z))]; exact q, n⟩
theorem RepL.air {ys zs : List V} (hD : H D = some (.lst ys)) : ∀ {ws : List W} {vs : List V}, RepL K H m ws vs → RepL K (upd H D (.lst zs)) m ws vs
  | [], _, r => by unfold RepL at r ⊢; exact r
  | w :: ws, _, r => by
    unfold RepL at r ⊢
    obtain ⟨v, q, e, r1, r2⟩ := r
    exact ⟨v, q, e, Rep.air hD r1, RepL.air hD r2⟩
end
theorem RepS.air {ys zs : List V} (hD : H D = some (.lst ys)) : ∀ {ρ : En} {σ : L2.St}, RepS K H m ρ σ → RepS K (upd H D (.lst zs)) m ρ σ
  | [], _, r => by unfold RepS at r ⊢; exact r
  | none :: ρ, _, r => by
    unfold RepS at r ⊢
    obtain ⟨y, q, e, r2⟩ := r
    exact ⟨y, q, e, RepS.air hD r2⟩
  | some w :: ρ, _, r => by
    unfold RepS at r ⊢
    obtain ⟨v, q, e, r1, r2⟩ := r
    exact ⟨v, q, e, r1.air hD, RepS.air hD r2⟩
theorem RelH.air {ys zs : List V} (hD : H D = some (.lst ys)) (hm : D ∉ m) (x : RelH K m H h) : RelH K m (upd H D (.lst zs)) h := by
  refine ⟨x.nd, x.len, fun n a o e1 e2 => ?_⟩
  have q := x.obj n a o e1 e2
  have hne : a ≠ D := fun z => hm (z ▸ List.mem_of_getElem? e1)
  cases o with
  | lst xs =>
    obtain ⟨vs, f, r⟩ := q
    exact ⟨vs, by rw [upd_ne hne]; exact f, r.air hD⟩
  | dic _ => exact q.elim
/-- a step, then a change of what was not there -/
theorem Nx.airNew (x : Nx m H m' H') (hD : H D = none) {o : HO} : Nx m H m' (upd H' D o) :=
  ⟨x.pre, fun a u e hm => by rw [upd_ne (ne_of_none e hD)]; exact x.fr a u e hm, x.new⟩
/-- a list in the air becomes one of ours -/
theorem RelH.adopt {xs : List W} {vs : List V} (x : RelH K m H h) (hD : H D = some (.lst vs)) (hm : D ∉ m) (r : RepL K H m xs vs) : RelH K (m ++ [D]) H (h ++ [.lst xs]) ∧ (∀ {ws : List W} {us : List V}, RepL K H m ws us → RepL K H (m ++ [D]) ws us) := by
  have tt : ∀ {a : Addr} {us : List V}, StT K H m a us → StT K H (m ++ [D]) a us := fun {a us} s => by
    rcases s with ⟨s, n⟩ | s
    · refine .inl ⟨s, fun z => ?_⟩
      rcases List.mem_append.mp z with z | z
      · exact n z
      · rw [List.mem_singleton.mp z] at s
        rcases s with s | ⟨o, s⟩
        · rw [hD] at s; cases s
        · rw [hD] at s; cases s
    · exact .inr s
  have tl : ∀ {a : Addr} {us : List V}, StL K H m a us → StL K H (m ++ [D]) a us := fun {a us} s => by
    rcases s with ⟨⟨o, s⟩, n⟩ | s
    · refine .inl ⟨⟨o, s⟩, fun z => ?_⟩
      rcases List.mem_append.mp z with z | z
      · exact n z
      · rw [List.mem_singleton.mp z, hD] at s; cases s
    · exact .inr s
  have two : ∀ n : Nat, (∀ (w : W) (v : V), sizeOf w < n → Rep K H m w v → Rep K H (m ++ [D]) w v) ∧ (∀ (ws : List W) (us : List V), sizeOf ws < n → RepL K H m ws us → RepL K H (m ++ [D]) ws us) := by
    intro n
    induction n with
    | zero => exact ⟨fun _ _ z => absurd z (Nat.not_lt_zero _), fun _ _ z => absurd z (Nat.not_lt_zero _)⟩
    | succ n ih =>
      refine ⟨fun w v hw r => ?_, fun ws us hw r => ?_⟩
      · cases w with
        | tup xs =>
          unfold Rep at r ⊢
          obtain ⟨a, vs, e, s, q⟩ := r
          exact ⟨a, vs, e, tt s, ih.2 xs vs (by simp at hw; omega) q⟩
        | fl xs =>
          unfold Rep at r ⊢
          obtain ⟨a, vs, e, s, q⟩ := r
          exact ⟨a, vs, e, tl s, ih.2 xs vs (by simp at hw; omega) q⟩
        | ref k =>
          unfold Rep at r ⊢
          obtain ⟨a, e, q⟩ := r
          exact ⟨a, by rw [List.getElem?_append_left (List.getElem?_eq_some_iff.mp e).1]; exact e, q⟩
        | rg i j =>
          unfold Rep at r ⊢
          obtain ⟨a, e, q, n⟩ := r
          refine ⟨a, e, q, fun z => ?_⟩
          rcases List.mem_append.mp z with z | z
          · exact n z
          · rw [List.mem_singleton.mp z, hD] at q; cases q
        | _ => unfold Rep at r ⊢; exact r
      · cases ws with
        | nil => unfold RepL at r ⊢; exact r
        | cons w ws =>
          unfold RepL at r ⊢
          obtain ⟨v, q, e, r1, r2⟩ := r
          exact ⟨v, q, e, ih.1 w v (by simp at hw; omega) r1, ih.2 ws q (by simp at hw; omega) r2⟩
  have all : ∀ {ws : List W} {us : List V}, RepL K H m ws us → RepL K H (m ++ [D]) ws us := fun {ws us} r => (two (sizeOf ws + 1)).2 ws us (Nat.lt_succ_self _) r
  refine ⟨⟨?_, by simp [x.len], fun n b u e1 e2 => ?_⟩, all⟩
  · rw [List.nodup_append]
    refine ⟨x.nd, by simp, fun b hb c hc => ?_⟩
    rw [List.mem_singleton.mp hc]
    exact fun z => hm (z ▸ hb)
  · by_cases hl : n < m.length
    · rw [List.getElem?_append_left hl] at e1
      rw [List.getElem?_append_left (by rw [← x.len]; exact hl)] at e2
      have q := x.obj n b u e1 e2
      cases u with
      | lst ys =>
        obtain ⟨us, f, r'⟩ := q
        exact ⟨us, f, all r'⟩
      | dic _ => exact q.elim
    · rw [List.getElem?_append_right (by omega)] at e1
      rw [List.getElem?_append_right (by rw [← x.len]; omega)] at e2
      have e3 : n - m.length = 0 := by
        have := (List.getElem?_eq_some_iff.mp e1).1
        simp at this; omega
      have e4 : n - h.length = 0 := by rw [← x.len]; exact e3
      rw [e3] at e1; rw [e4] at e2
      simp at e1 e2
      subst e1; subst e2
      exact ⟨vs, hD, all r⟩
end

/-! ### readings -/
/-- what an exception is in the hand layer; the classes' table -/
structure GX where
  prog : Program
  w : World
  K : PySem.W.Frag
  mg : Str → Option Value
  base : Heap
  /-- the exception classes -/
  cls : List Value
def RepX (G : GX) (H : Hp) (m : List Addr) (e : Ex) (c : Value) (d : Option Addr) : Prop :=
  G.cls[e.cls]? = some c ∧ e.args = [] ∧ d = none

section
variable (G : GX)
/-- what is wanted of a result of one's own -/
def ROk {α : Type} (m : List Addr) (H : Hp) (r : Res α) (P : α → Hw → List Addr → Hp → Prop) (E : XK) : Prop :=
  match r with
  | .ok a h' => ∀ m' H', Nx m H m' H' → RelH G.K m' H' h' → P a h' m' H'
  | .exc e h' => ∀ m' H' c d, Nx m H m' H' → RelH G.K m' H' h' → RepX G H' m' e c d → E c d H'
  | .err => False
/-- a result that is a value of ours and one of theirs -/
def RV {α β : Type} (R : Hp → List Addr → α → β → Prop) (m : List Addr) (H : Hp) (r : Res α) (Q : β → Hp → Prop) (E : XK) : Prop :=
  match r with
  | .ok a h' => ∀ m' H' b, Nx m H m' H' → RelH G.K m' H' h' → R H' m' a b → Q b H'
  | .exc e h' => ∀ m' H' c d, Nx m H m' H' → RelH G.K m' H' h' → RepX G H' m' e c d → E c d H'
  | .err => False
end
section
variable {G : GX} {m m1 : List Addr} {H H1 : Hp} {E E' : XK}
theorem RV.down {α β : Type} {R : Hp → List Addr → α → β → Prop} {r : Res α} {Q : β → Hp → Prop} (x : Nx m H m1 H1) (z : RV G R m H r Q E) : RV G R m1 H1 r Q E := by
  cases r with
  | ok a h' => exact fun m' H' b n r q => z m' H' b (x.trans n) r q
  | exc e h' => exact fun m' H' c d n r q => z m' H' c d (x.trans n) r q
  | err => exact z
theorem RV.mono {α β : Type} {R : Hp → List Addr → α → β → Prop} {r : Res α} {Q Q' : β → Hp → Prop} (z : RV G R m H r Q E) (hq : ∀ b H', Q b H' → Q' b H') : RV G R m H r Q' E := by
  cases r with
  | ok a h' => exact fun m' H' b n r q => hq b H' (z m' H' b n r q)
  | exc e h' => exact z
  | err => exact z
theorem RV.bind {α β α' β' : Type} {R : Hp → List Addr → α → β → Prop} {R' : Hp → List Addr → α' → β' → Prop} {r : Res α} {f : α → Hw → Res α'} {Q : β' → Hp → Prop}
    (z : RV G R' m H (r.bind f) Q E) : RV G R m H r (fun b H1 => ∃ m1 a h1, Nx m H m1 H1 ∧ RelH G.K m1 H1 h1 ∧ R H1 m1 a b ∧ RV G R' m1 H1 (f a h1) Q E) E := by
  cases r with
  | ok a h' => exact fun m' H' b n rh q => ⟨m', a, h', n, rh, q, RV.down n z⟩
  | exc e h' => exact fun m' H' c d n rh q => z m' H' c d n rh q
  | err => exact z
end
end Ev

set_option Elab.async false
set_option linter.all false
set_option maxRecDepth 100000
/-! Ev3: operators and built-in functions by values. -/
namespace Ev
open PySem PySem.Spec PyProof.Rows L2

theorem lim_eq : lim = sizeLine := by rw [sizeLine_eq]; rfl
section
variable {G : GX} {m m' : List Addr} {H H' : Hp} {h h' : Hw} {E : XK}
theorem Rep.int_of {v : V} {i : Int} (r : Rep G.K H m (.int i) v) : v = .int i := by unfold Rep at r; exact r
theorem Rep.bl_of {v : V} {b : Bool} (r : Rep G.K H m (.bl b) v) : v = .bl b := by unfold Rep at r; exact r
theorem Rep.non_of {v : V} (r : Rep G.K H m .non v) : v = .non := by unfold Rep at r; exact r
theorem Rep.str_of {v : V} {x : Str} (r : Rep G.K H m (.str x) v) : v = .str x := by unfold Rep at r; exact r
theorem Rep.tup_of {v : V} {xs : List W} (r : Rep G.K H m (.tup xs) v) : ∃ a vs, v = .ref a ∧ StT G.K H m a vs ∧ RepL G.K H m xs vs := by unfold Rep at r; exact r
theorem Rep.fl_of {v : V} {xs : List W} (r : Rep G.K H m (.fl xs) v) : ∃ a vs, v = .ref a ∧ StL G.K H m a vs ∧ RepL G.K H m xs vs := by unfold Rep at r; exact r
theorem Rep.ref_of {v : V} {n : Nat} (r : Rep G.K H m (.ref n) v) : ∃ a, m[n]? = some a ∧ v = .ref a := by unfold Rep at r; exact r
theorem Rep.int' {i : Int} : Rep G.K H m (.int i) (.int i) := by unfold Rep; rfl
theorem Rep.bl' {b : Bool} : Rep G.K H m (.bl b) (.bl b) := by unfold Rep; rfl
theorem Rep.non' : Rep G.K H m .non .non := by unfold Rep; rfl
theorem Rep.str' {x : Str} : Rep G.K H m (.str x) (.str x) := by unfold Rep; rfl
theorem Rep.tup' {xs : List W} {vs : List V} {a : Addr} (s : StT G.K H m a vs) (r : RepL G.K H m xs vs) : Rep G.K H m (.tup xs) (.ref a) := by unfold Rep; exact ⟨a, vs, rfl, s, r⟩
theorem Rep.ref' {n : Nat} {a : Addr} (e : m[n]? = some a) : Rep G.K H m (.ref n) (.ref a) := by unfold Rep; exact ⟨a, e, rfl⟩

/-- the end: a value, nothing made -/
theorem RV.here {α β : Type} {R : Hp → List Addr → α → β → Prop} {a : α} {b : β} {Q : β → Hp → Prop} (z : RV G R m H (.ok a h) Q E) (rh : RelH G.K m H h) (r : R H m a b) : Q b H := z m H b .refl rh r
/-- a new tuple -/
theorem RV.newT {xs : List W} {vs : List V} {Q : V → Hp → Prop} (z : RV G (Rep G.K) m H (.ok (.tup xs) h) Q E) (rh : RelH G.K m H h) (r : RepL G.K H m xs vs) : ∀ p, H p = none → Q (.ref p) (upd H p (.tup vs)) := fun p hp =>
  z m _ _ (Nx.laid hp) (rh.laid hp) (.tup' (.inl ⟨.inl upd_same, rh.free hp⟩) (r.mono (Nx.laid hp)))
/-- a new list -/
theorem RV.newL {xs : List W} {vs : List V} {Q : V → Hp → Prop} (z : RV G (Rep G.K) m H (.ok (.ref h.length) (h ++ [.lst xs])) Q E) (rh : RelH G.K m H h) (r : RepL G.K H m xs vs) : ∀ p, H p = none → Q (.ref p) (upd H p (.lst vs)) := fun p hp =>
  z (m ++ [p]) _ _ (Nx.grow rh hp) (rh.grow hp r) (.ref' (by rw [← rh.len, List.getElem?_append_right (Nat.le_refl _)]; simp))
theorem RV.no {α β : Type} {R : Hp → List Addr → α → β → Prop} {Q : β → Hp → Prop} {C : Prop} (z : RV G R m H (.err : Res α) Q E) : C := (show False from z).elim

def OpS (G : GX) (r : R2) (sem : W → W → Hw → Res W) : Prop :=
  ∀ (m : List Addr) (H : Hp) (h : Hw) (a b : W) (x y : V) (Q : VK) (E : XK), RelH G.K m H h → Rep G.K H m a x → Rep G.K H m b y → RV G (Rep G.K) m H (sem a b h) Q E → r x y H Q

/-- what a seq value is -/
theorem seq_of {w : W} {v : V} {xs : List W} (rh : RelH G.K m H h) (r : Rep G.K H m w v) (e : seqOf h w = some xs) :
    ∃ a vs, v = .ref a ∧ RepL G.K H m xs vs ∧ (SqL G.K H a vs ∨ SqT G.K H a vs) := by
  cases w with
  | tup ys =>
    obtain ⟨a, vs, e1, s, q⟩ := r.tup_of
    cases (show some ys = some xs from e)
    exact ⟨a, vs, e1, q, .inr s.sq⟩
  | fl ys =>
    obtain ⟨a, vs, e1, s, q⟩ := r.fl_of
    cases (show some ys = some xs from e)
    exact ⟨a, vs, e1, q, .inl s.sq⟩
  | ref n =>
    obtain ⟨a, e1, e2⟩ := r.ref_of
    have e : (match h[n]? with | some (.lst xs) => some xs | _ => none) = some xs := e
    split at e
    · rename_i ys hy
      cases e
      obtain ⟨vs, e3, q⟩ := rh.lst hy e1
      exact ⟨a, vs, e2, q, .inl (SqL.of e3)⟩
    · cases e
  | _ => cases e
theorem lens {ws : List W} {vs : List V} (r : RepL G.K H m ws vs) : vs.length = ws.length := r.len.symm
end

/-! ### binary operators -/
section
variable {X : Cx} {G : GX}
def rNo : R2 := fun _ _ _ _ => False
theorem tuple_mulS (l : Addr) (items : Array Value) (n : Nat) (sl : Array (Option Value)) (x : Int) (u : Tok) (c0 : (decide (x < -(2 ^ 63)) || decide (x ≥ 2 ^ 63)) = false) (c1 : (items.isEmpty || x == 1) = true) (dd : Option Addr) :
    Meets (Builtin.«tuple.__mul__» ⟨[.ref l, .int x u], []⟩) (fun _ R s => s.heap.get? l = some { cls := .type "tuple", dict := dd, data := .seq items n, slots := sl } ∧
      R (.ok (.ret (Value.ref l))) s) :=
  .of_wp fun prog w A R s h => by
    obtain ⟨hp, g, d, tk, os⟩ := s
    obtain ⟨hl, h⟩ := h
    have f1 := AutoSeq1.idx_int
    wp_walk using wpAny_loadPart' hl
    repeat (first
      | (refine wpAny_ite_false (decide_eq_false (by rw [c0]; exact Bool.false_ne_true)) ?_; wp_walk using wpAny_loadPart' hl)
      | (refine wpAny_ite_true (decide_eq_true (by rw [c1])) ?_; wp_walk using wpAny_loadPart' hl))
    exact ⟨_, rfl, h⟩
theorem tuple_mul0 (l : Addr) (items : Array Value) (n : Nat) (sl : Array (Option Value)) (x : Int) (u : Tok) (c0 : (decide (x < -(2 ^ 63)) || decide (x ≥ 2 ^ 63)) = false) (c1 : (items.isEmpty || x == 1) = false) (c2 : (decide (x ≤ 0) || items.isEmpty) = true) (dd : Option Addr) :
    Meets (Builtin.«tuple.__mul__» ⟨[.ref l, .int x u], []⟩) (fun _ R s => s.heap.get? l = some { cls := .type "tuple", dict := dd, data := .seq items n, slots := sl } ∧
      R (.ok (.ret (Value.ref s.heap.objs.size))) { s with heap := s.heap.push { cls := Value.type "tuple", data := Data.seq #[] }, toks := s.toks }) :=
  .of_wp fun prog w A R s h => by
    obtain ⟨hp, g, d, tk, os⟩ := s
    obtain ⟨hl, h⟩ := h
    have f1 := AutoSeq1.idx_int
    wp_walk using wpAny_loadPart' hl
    repeat (first
      | (refine wpAny_ite_false (decide_eq_false (by rw [c0]; exact Bool.false_ne_true)) ?_; wp_walk using wpAny_loadPart' hl)
      | (refine wpAny_ite_false (decide_eq_false (by rw [c1]; exact Bool.false_ne_true)) ?_; wp_walk using wpAny_loadPart' hl)
      | (refine wpAny_ite_true (decide_eq_true (by rw [c2])) ?_; wp_walk using wpAny_loadPart' hl))
    exact ⟨_, rfl, h⟩
def rAddA (K : PySem.W.Frag) : R2 := fun x y H Q => rI0 (fun i j => .int (i + j)) x y H Q ∨ rCatA K x y H Q ∨ rCat x y H Q
theorem op_addA : OpR X (binaryOp .Add) (rAddA X.K) := op_add.or (op_catA.or op_cat)
theorem addS : OpS G (rAddA G.K) (bop .add) := by
  intro m H h a b x y Q E rh ra rb z
  cases a with
  | int i =>
    cases b with
    | int j =>
      rw [ra.int_of, rb.int_of]
      exact .inl ⟨i, j, rfl, rfl, z.here rh .int'⟩
    | _ => exact z.no
  | tup xs =>
    cases b with
    | tup ys =>
      obtain ⟨a1, v1, rfl, s1, q1⟩ := ra.tup_of
      obtain ⟨a2, v2, rfl, s2, q2⟩ := rb.tup_of
      have z : RV G (Rep G.K) m H (if xs.length + ys.length ≤ lim then .ok (.tup (xs ++ ys)) h else .err) Q E := z
      by_cases hl : xs.length + ys.length ≤ lim
      · rw [if_pos hl] at z
        refine .inr (.inl ⟨a1, a2, v1, v2, rfl, rfl, s1.sq, s2.sq, by rw [← q1.len, ← q2.len, ← lim_eq]; exact hl, fun e => ?_, fun _ e => ?_, fun _ _ => z.newT rh (q1.append q2)⟩)
        · subst e
          have : xs = [] := List.eq_nil_of_length_eq_zero (by rw [q1.len]; rfl)
          subst this
          exact z.here rh (.tup' s2 q2)
        · subst e
          have : ys = [] := List.eq_nil_of_length_eq_zero (by rw [q2.len]; rfl)
          subst this
          rw [List.append_nil] at z
          exact z.here rh (.tup' s1 q1)
      · rw [if_neg hl] at z; exact z.no
    | _ => exact z.no
  | ref p =>
    cases b with
    | ref q =>
      obtain ⟨a1, e1, rfl⟩ := ra.ref_of
      obtain ⟨a2, e2, rfl⟩ := rb.ref_of
      have z : RV G (Rep G.K) m H (match h[p]?, h[q]? with
        | some (.lst xs), some (.lst ys) => if xs.length + ys.length ≤ lim then .ok (.ref h.length) (h ++ [.lst (xs ++ ys)]) else .err
        | _, _ => .err) Q E := z
      split at z
      · rename_i xs ys hx hy
        split at z
        · rename_i hl
          obtain ⟨v1, f1, q1⟩ := rh.lst hx e1
          obtain ⟨v2, f2, q2⟩ := rh.lst hy e2
          exact .inr (.inr ⟨a1, a2, v1, v2, rfl, rfl, f1, f2, by rw [← q1.len, ← q2.len, ← lim_eq]; exact hl, z.newL rh (q1.append q2)⟩)
        · exact z.no
      · exact z.no
    | _ => exact z.no
  | _ => exact z.no
theorem subS : OpS G (rI0 fun i j => .int (i - j)) (bop .sub) := by
  intro m H h a b x y Q E rh ra rb z
  cases a with
  | int i =>
    cases b with
    | int j =>
      rw [ra.int_of, rb.int_of]
      exact ⟨i, j, rfl, rfl, z.here rh .int'⟩
    | _ => exact z.no
  | _ => cases b <;> exact z.no
theorem mulOk_of {i j : Int} (h : mulOk i j = true) : CMul i j := by
  unfold mulOk at h
  unfold CMul
  rw [Bool.or_eq_true, decide_eq_true_eq, decide_eq_true_eq] at h
  omega
theorem fdivS : OpS G (rI CDivW fun i j => .int (i / j)) (bop .fdiv) := by
  intro m H h a b x y Q E rh ra rb z
  cases a with
  | int i =>
    cases b with
    | int j =>
      rw [ra.int_of, rb.int_of]
      have z : RV G (Rep G.K) m H (if divOk j = true then .ok (.int (i / j)) h else .err) Q E := z
      by_cases hd : divOk j = true
      · rw [if_pos hd] at z
        unfold divOk at hd
        rw [Bool.and_eq_true, decide_eq_true_eq, decide_eq_true_eq] at hd
        exact ⟨i, j, rfl, rfl, wide_div (b := 200) hd.1 (by omega) (by decide) (by decide), z.here rh .int'⟩
      · rw [if_neg hd] at z; exact z.no
    | _ => exact z.no
  | _ => cases b <;> exact z.no
theorem modS : OpS G (rI (fun _ j => 0 < j) fun i j => .int (i % j)) (bop .mod) := by
  intro m H h a b x y Q E rh ra rb z
  cases a with
  | int i =>
    cases b with
    | int j =>
      rw [ra.int_of, rb.int_of]
      have z : RV G (Rep G.K) m H (if 0 < j then .ok (.int (i % j)) h else .err) Q E := z
      by_cases hd : 0 < j
      · rw [if_pos hd] at z
        exact ⟨i, j, rfl, rfl, hd, z.here rh .int'⟩
      · rw [if_neg hd] at z; exact z.no
    | _ => exact z.no
  | _ => cases b <;> exact z.no
theorem powS : OpS G (rI CPow fun i j => .int (i ^ j.toNat)) (bop .pow) := by
  intro m H h a b x y Q E rh ra rb z
  cases a with
  | int i =>
    cases b with
    | int j =>
      rw [ra.int_of, rb.int_of]
      have z : RV G (Rep G.K) m H (if powOk i j = true then .ok (.int (i ^ j.toNat)) h else .err) Q E := z
      by_cases hd : powOk i j = true
      · rw [if_pos hd] at z
        unfold powOk at hd
        rw [Bool.and_eq_true, Bool.and_eq_true, decide_eq_true_eq, decide_eq_true_eq, decide_eq_true_eq] at hd
        exact ⟨i, j, rfl, rfl, ⟨hd.1.1, by omega, by omega⟩, z.here rh .int'⟩
      · rw [if_neg hd] at z; exact z.no
    | _ => exact z.no
  | _ => cases b <;> exact z.no

def rMulA (K : PySem.W.Frag) : R2 := fun x y H Q => rI CMul (fun i j => .int (i * j)) x y H Q ∨
  (∃ l k xs, x = .ref l ∧ y = .int k ∧ SqT K H l xs ∧ xs.length * k.toNat ≤ 1000000 ∧ k ≤ 1000000 ∧ -(2 ^ 62) < k ∧ (SqT K H l (List.replicate k.toNat xs).flatten → Q (.ref l) H) ∧ (∀ p, H p = none → Q (.ref p) (upd H p (.tup (List.replicate k.toNat xs).flatten)))) ∨ rRep x y H Q
/-- a tuple many times over -/
theorem op_repBig : OpR X (binaryOp .Mult) (fun x y H Q => ∃ l k xs, x = .ref l ∧ y = .int k ∧ SqT X.K H l xs ∧ xs ≠ [] ∧ 2 ≤ k ∧ k ≤ 1000000 ∧ xs.length * k.toNat ≤ 1000000 ∧ ∀ p, H p = none → Q (.ref p) (upd H p (.tup (List.replicate k.toNat xs).flatten))) := by
  intro pins s σ H x y v u Q I rx ry ⟨l, k, xs, ex, ey, hT, hne, k2, k6, hz, q⟩
  subst ex ey
  cases rx
  obtain ⟨t, rfl⟩ := ry
  obtain ⟨its, r, ⟨⟨cls, dd, data, sl⟩, ho, hc, n, hd⟩, _⟩ := I.tuple hT
  dsimp only at hc hd
  subst hc hd
  have len : its.length = xs.length := r.length.symm
  have pos : 0 < xs.length := List.length_pos_iff.mpr hne
  have emp : its.toArray.isEmpty = false := by
    rw [Array.isEmpty, List.size_toArray, len]
    exact decide_eq_false (by omega)
  have flat : (List.replicate k.toNat xs).flatten.length ≤ sizeLine := by
    rw [PyProof.Rows.lm_len_rep_flat, sizeLine_eq, Nat.mul_comm]; omega
  have flati : (List.replicate k.toNat its).flatten.length ≤ sizeLine := by
    rw [PyProof.Rows.lm_len_rep_flat, len, sizeLine_eq, Nat.mul_comm]; omega
  have prod : ((its.toArray.size : Nat) : Int) * k ≤ 1000000 := by
    have ek : ((k.toNat : Nat) : Int) = k := by omega
    rw [List.size_toArray, len, ← ek, ← Int.natCast_mul]; omega
  have many : Builtin.Tuple.tupleTooMany (((its.toArray.size : Nat) : Int) * k) = false := by
    unfold Builtin.Tuple.tupleTooMany; rw [sizeLine_eq]; exact decide_eq_false (by omega)
  have a0 : (decide (k < -(2 ^ 63)) || decide (k ≥ 2 ^ 63)) = false := by simp; omega
  have a1 : (its.toArray.isEmpty || k == 1) = false := by rw [emp]; simp; omega
  have a2 : (decide (k ≤ 0) || its.toArray.isEmpty) = false := by rw [emp]; simp; omega
  exact wpAny_binaryOp_repeat_ref (T := "tuple") (U := "int") (by decide) ⟨_, ho, rfl⟩ (fun z => typeIs_int z k t) noFill_tuple_mul F.fills_int_mul F.slot_int_rmul repeat_tuple F.slot_int_index.lookup (call_meets F.slot_int_rmul (typeIs_int s k t) F.entry_int_rmul (F.args_int_rmul_2 _ _) (int_rmul_tuple k t l its.toArray n dd sl) ⟨ho, rfl, ⟨_, ho, rfl⟩, call_meets F.slot_tuple_mul ⟨_, ho, rfl⟩ F.entry_tuple_mul (F.args_tuple_mul_2 _ _) (tuple_mulW l its.toArray n dd sl k t a0 a1 a2 (by omega) many (by rw [size_rep, List.size_toArray]; exact flati)) ⟨ho, by
    rw [size_rep]
    exact ⟨.ref s.heap.objs.size, _, I.laid (t' := s.toks) (o := .tup (List.replicate k.toNat xs).flatten) (fun _ _ z => Heap.get?_push_of_some _ z) (Nat.le_refl _) ⟨flat, _, r.rep k.toNat, IsTup.new _ _⟩, rfl, q _ (I.hok.fresh (Nat.le_refl _))⟩⟩⟩)
theorem op_repAll : OpR X (binaryOp .Mult) (fun x y H Q => ∃ l k xs, x = .ref l ∧ y = .int k ∧ SqT X.K H l xs ∧ xs.length * k.toNat ≤ 1000000 ∧ k ≤ 1000000 ∧ -(2 ^ 62) < k ∧ (SqT X.K H l (List.replicate k.toNat xs).flatten → Q (.ref l) H) ∧ (∀ p, H p = none → Q (.ref p) (upd H p (.tup (List.replicate k.toNat xs).flatten)))) := by
  intro pins s σ H x y v u Q I rx ry h
  obtain ⟨l, k, xs, rfl, rfl, hT, hz, h2, h3, qs, q⟩ := h
  by_cases hbig : xs ≠ [] ∧ 2 ≤ k
  · exact op_repBig pins s σ H _ _ v u Q I rx ry ⟨l, k, xs, rfl, rfl, hT, hbig.1, hbig.2, h2, hz, q⟩
  cases rx
  obtain ⟨t, rfl⟩ := ry
  obtain ⟨its, r, ⟨⟨cls, dd, data, sl⟩, ho, hc, n, hd⟩, hs⟩ := I.tuple hT
  simp only at hc hd
  subst hc hd
  have hle : its.length = xs.length := r.length.symm
  have c0 : (decide (k < -(2 ^ 63)) || decide (k ≥ 2 ^ 63)) = false := by
    rw [decide_eq_false (by omega), decide_eq_false (by omega)] <;> rfl
  have hemp : its.toArray.isEmpty = decide (xs = []) := by
    cases its with
    | nil =>
      have : xs = [] := List.eq_nil_of_length_eq_zero hle.symm
      rw [this]; rfl
    | cons a b =>
      have : xs ≠ [] := fun e => by rw [e] at hle; simp at hle
      rw [decide_eq_false this]; rfl
  cases c1 : (its.toArray.isEmpty || k == 1) with
  | true =>
    refine wpAny_binaryOp_repeat_ref (T := "tuple") (U := "int") (by decide) ⟨_, ho, rfl⟩ (fun s' => typeIs_int s' k t) noFill_tuple_mul F.fills_int_mul F.slot_int_rmul repeat_tuple F.slot_int_index.lookup
      (call_meets F.slot_int_rmul (typeIs_int s k t) F.entry_int_rmul (F.args_int_rmul_2 _ _) (int_rmul_tuple k t l its.toArray n dd sl)
        ⟨ho, rfl, ⟨_, ho, rfl⟩, call_meets F.slot_tuple_mul ⟨_, ho, rfl⟩ F.entry_tuple_mul (F.args_tuple_mul_2 _ _) (tuple_mulS l its.toArray n sl k t c0 c1 dd) ⟨ho, ?_⟩⟩)
    refine ⟨.ref l, H, I, rfl, qs ?_⟩
    have e : (List.replicate k.toNat xs).flatten = xs := by
      rw [Bool.or_eq_true] at c1
      rcases c1 with c1 | c1
      · rw [hemp, decide_eq_true_eq] at c1
        subst c1
        simp
      · have : k = 1 := by simpa using c1
        subst this
        simp
    rw [e]; exact hT
  | false =>
    have c2 : (decide (k ≤ 0) || its.toArray.isEmpty) = true := by
      rw [Bool.or_eq_false_iff] at c1
      obtain ⟨d1, d2⟩ := c1
      rw [hemp, decide_eq_false_iff_not] at d1
      have d2 : k ≠ 1 := by simpa using d2
      have : ¬ 2 ≤ k := fun z => hbig ⟨d1, z⟩
      rw [decide_eq_true (by omega)]; rfl
    refine wpAny_binaryOp_repeat_ref (T := "tuple") (U := "int") (by decide) ⟨_, ho, rfl⟩ (fun s' => typeIs_int s' k t) noFill_tuple_mul F.fills_int_mul F.slot_int_rmul repeat_tuple F.slot_int_index.lookup
      (call_meets F.slot_int_rmul (typeIs_int s k t) F.entry_int_rmul (F.args_int_rmul_2 _ _) (int_rmul_tuple k t l its.toArray n dd sl)
        ⟨ho, rfl, ⟨_, ho, rfl⟩, call_meets F.slot_tuple_mul ⟨_, ho, rfl⟩ F.entry_tuple_mul (F.args_tuple_mul_2 _ _) (tuple_mul0 l its.toArray n sl k t c0 c1 c2 dd) ⟨ho, ?_⟩⟩)
    have hne : xs ≠ [] := by
      rw [Bool.or_eq_false_iff, hemp, decide_eq_false_iff_not] at c1
      exact c1.1
    have hk : k ≤ 0 := by
      rw [Bool.or_eq_false_iff] at c1
      have d2 : k ≠ 1 := by simpa using c1.2
      have : ¬ 2 ≤ k := fun z => hbig ⟨hne, z⟩
      omega
    have e : (List.replicate k.toNat xs).flatten = [] := by
      rw [show k.toNat = 0 by omega]; rfl
    rw [e] at q
    refine ⟨.ref s.heap.objs.size, _, I.laid (t' := s.toks) (o := .tup []) (fun b ob q => Heap.get?_push_of_some _ q) (Nat.le_refl _) ?_, rfl, q _ (I.hok.fresh (Nat.le_refl _))⟩
    exact ⟨Nat.zero_le _, [], .nil, IsTup.new _ _⟩
theorem op_mulA : OpR X (binaryOp .Mult) (rMulA X.K) := op_mul.or (op_repAll.or op_rep)
theorem ConT.inj {K : PySem.W.Frag} {a : Addr} {xs ys : List V} (h : ConT K a xs) (h' : ConT K a ys) : xs = ys := by
  obtain ⟨o, its, n, e, _, d, _, r⟩ := h
  obtain ⟨o', its', n', e', _, d', _, r'⟩ := h'
  rw [e] at e'; cases e'
  rw [d] at d'; injection d' with d1 _
  subst d1
  exact r.inj r'
theorem mulS : OpS G (rMulA G.K) (bop .mul) := by
  intro m H h a b x y Q E rh ra rb z
  cases a with
  | int i =>
    cases b with
    | int j =>
      rw [ra.int_of, rb.int_of]
      have z : RV G (Rep G.K) m H (if mulOk i j = true then .ok (.int (i * j)) h else .err) Q E := z
      by_cases hd : mulOk i j = true
      · rw [if_pos hd] at z
        exact .inl ⟨i, j, rfl, rfl, mulOk_of hd, z.here rh .int'⟩
      · rw [if_neg hd] at z; exact z.no
    | _ => exact z.no
  | tup xs =>
    cases b with
    | int k =>
      obtain ⟨a1, v1, rfl, s1, q1⟩ := ra.tup_of
      rw [rb.int_of]
      have z : RV G (Rep G.K) m H (if xs.length * k.toNat ≤ 1000000 ∧ k ≤ 1000000 ∧ -(2 ^ 62) < k then .ok (.tup (List.replicate k.toNat xs).flatten) h else .err) Q E := z
      by_cases hl : xs.length * k.toNat ≤ 1000000 ∧ k ≤ 1000000 ∧ -(2 ^ 62) < k
      · rw [if_pos hl] at z
        refine .inr (.inl ⟨a1, k, v1, rfl, rfl, s1.sq, by rw [← q1.len]; exact hl.1, hl.2.1, hl.2.2, fun e => ?_, z.newT rh (q1.rep _)⟩)
        refine z.here rh (.tup' ?_ (q1.rep _))
        rcases s1 with ⟨s, hm⟩ | s
        · rcases e with e | e
          · exact .inl ⟨e, hm⟩
          · exact .inr e
        · rcases e with e | e
          · exact .inl ⟨e, fun hm => by
              obtain ⟨vs, hv⟩ := rh.hit hm
              rcases e with e | ⟨o, e⟩
              · rw [hv] at e; cases e
              · rw [hv] at e; cases e⟩
          · exact .inr e
      · rw [if_neg hl] at z; exact z.no
    | _ => exact z.no
  | ref p =>
    cases b with
    | int k =>
      obtain ⟨a1, e1, rfl⟩ := ra.ref_of
      rw [rb.int_of]
      have z : RV G (Rep G.K) m H (match h[p]? with
        | some (.lst xs) => if xs.length * k.toNat ≤ lim ∧ k < 2 ^ 62 ∧ -(2 ^ 62) < k then .ok (.ref h.length) (h ++ [.lst (List.replicate k.toNat xs).flatten]) else .err
        | _ => .err) Q E := z
      split at z
      · rename_i xs hx
        split at z
        · rename_i hl
          obtain ⟨v1, f1, q1⟩ := rh.lst hx e1
          exact .inr (.inr ⟨a1, k, v1, rfl, rfl, f1, by omega, by omega, by rw [← q1.len, ← lim_eq]; exact hl.1, z.newL rh (q1.rep _)⟩)
        · exact z.no
      · exact z.no
    | _ => exact z.no
  | _ => exact z.no
end
end Ev

set_option Elab.async false
set_option linter.all false
set_option maxRecDepth 100000
/-! Ev4: comparisons, items, slices, truth, built-in functions, methods, by values. -/
namespace Ev
open PySem PySem.Spec PyProof.Rows L2
section
variable {G : GX} {m : List Addr} {H : Hp} {h : Hw} {E : XK}
/-! ### == -/
mutual
theorem dp_of : ∀ {w : W} {v : V} {d : PyData}, Rep G.K H m w v → W.toD h w = some d → Dp G.K H v d ∧ d.canLay0 = true
  | .non, v, d, r, e => by
    rw [r.non_of]; unfold W.toD at e; cases e
    exact ⟨.non, by simp [PyData.canLay0]⟩
  | .bl b, v, d, r, e => by
    rw [r.bl_of]; unfold W.toD at e; cases e
    exact ⟨.bl b, by simp [PyData.canLay0]⟩
  | .int b, v, d, r, e => by
    rw [r.int_of]; unfold W.toD at e; cases e
    exact ⟨.int b, by simp [PyData.canLay0]⟩
  | .str b, v, d, r, e => by
    rw [r.str_of]; unfold W.toD at e
    split at e
    · rename_i hs
      cases e
      exact ⟨.str b, by simpa [PyData.canLay0] using hs⟩
    · cases e
  | .tup xs, v, d, r, e => by
    obtain ⟨a, vs, rfl, s, q⟩ := r.tup_of
    unfold W.toD at e
    cases e1 : W.toDs h xs with
    | none => rw [e1] at e; cases e
    | some ds =>
      rw [e1] at e; cases e
      obtain ⟨q1, q2⟩ := dps_of q e1
      exact ⟨.tup s.sq q1, by simpa [PyData.canLay0] using q2⟩
  | .fl xs, v, d, r, e => by
    obtain ⟨a, vs, rfl, s, q⟩ := r.fl_of
    unfold W.toD at e
    cases e1 : W.toDs h xs with
    | none => rw [e1] at e; cases e
    | some ds =>
      rw [e1] at e; cases e
      obtain ⟨q1, q2⟩ := dps_of q e1
      exact ⟨.lst s.sq q1, by simpa [PyData.canLay0] using q2⟩
  | .ref n, v, d, r, e => by unfold W.toD at e; cases e
theorem dps_of : ∀ {ws : List W} {vs : List V} {ds : List PyData}, RepL G.K H m ws vs → W.toDs h ws = some ds → DpAll G.K H vs ds ∧ PyData.canLayAll0 ds = true
  | [], vs, ds, r, e => by
    unfold RepL at r; subst r
    unfold W.toDs at e; cases e
    exact ⟨.nil, by simp [PyData.canLayAll0]⟩
  | w :: ws, vs, ds, r, e => by
    obtain ⟨v, q, rfl, r1, r2⟩ := r.uncons
    unfold W.toDs at e
    cases e1 : W.toD h w with
    | none => rw [e1] at e; cases e
    | some d =>
      cases e2 : W.toDs h ws with
      | none => rw [e1, e2] at e; cases e
      | some ds' =>
        rw [e1, e2] at e; cases e
        obtain ⟨a1, a2⟩ := dp_of r1 e1
        obtain ⟨b1, b2⟩ := dps_of r2 e2
        exact ⟨.cons a1 b1, by simp [PyData.canLayAll0, a2, b2]⟩
end
theorem dp1_of {w : W} {v : V} {d : PyData} (rh : RelH G.K m H h) (r : Rep G.K H m w v) (e : W.toD1 h w = some d) : Dp G.K H v d ∧ d.canLay0 = true := by
  cases w with
  | ref n =>
    obtain ⟨a, e1, rfl⟩ := r.ref_of
    have e : (match h[n]? with | some (.lst xs) => (W.toDs h xs).map .list | _ => none) = some d := e
    split at e
    · rename_i xs hx
      obtain ⟨vs, f, q⟩ := rh.lst hx e1
      cases e3 : W.toDs h xs with
      | none => rw [e3] at e; cases e
      | some ds =>
        rw [e3] at e; cases e
        obtain ⟨q1, q2⟩ := dps_of q e3
        exact ⟨.lst (.of f) q1, by simpa [PyData.canLay0] using q2⟩
    · cases e
  | _ => exact dp_of (h := h) r e
theorem eqW_dp {a b : W} {x y : V} {k : Bool} (rh : RelH G.K m H h) (ra : Rep G.K H m a x) (rb : Rep G.K H m b y) (e : eqW a b h = some k) :
    ∃ d e, Dp G.K H x d ∧ Dp G.K H y e ∧ SeqAt.shaped d = true ∧ SeqAt.shaped e = true ∧ PyData.eqv d e = k := by
  unfold eqW at e
  split at e
  · rename_i d e' h1 h2
    split at e
    · rename_i hd
      cases e
      obtain ⟨p1, p2⟩ := dp1_of rh ra h1
      obtain ⟨q1, q2⟩ := dp1_of rh rb h2
      exact ⟨d, e', p1, q1, by unfold SeqAt.shaped; rw [p2, decide_eq_true hd.1]; rfl, by unfold SeqAt.shaped; rw [q2, decide_eq_true hd.2]; rfl, rfl⟩
    · cases e
  · cases e
theorem eqS : OpS G (rEqD G.K) (cmp .eq) := by
  intro m H h a b x y Q E rh ra rb z
  have z : RV G (Rep G.K) m H (match eqW a b h with | some k => .ok (.bl k) h | none => .err) Q E := z
  split at z
  · rename_i k hk
    obtain ⟨d, e, p1, p2, p3, p4, rfl⟩ := eqW_dp rh ra rb hk
    exact ⟨d, e, p1, p2, p3, p4, z.here rh .bl'⟩
  · exact z.no
theorem neS : OpS G (rNeD G.K) (cmp .ne) := by
  intro m H h a b x y Q E rh ra rb z
  have z : RV G (Rep G.K) m H (match eqW a b h with | some k => .ok (.bl (!k)) h | none => .err) Q E := z
  split at z
  · rename_i k hk
    obtain ⟨d, e, p1, p2, p3, p4, rfl⟩ := eqW_dp rh ra rb hk
    exact ⟨d, e, p1, p2, p3, p4, z.here rh .bl'⟩
  · exact z.no
theorem inW_dp {a b : W} {x y : V} {k : Bool} (rh : RelH G.K m H h) (ra : Rep G.K H m a x) (rb : Rep G.K H m b y) (e : inW a b h = some k) :
    ∃ d ds, Dp G.K H x d ∧ Dp G.K H y (.list ds) ∧ SeqAt.shaped d = true ∧ SeqAt.shaped (.list ds) = true ∧ (ds.any fun z => PyData.eqv z d) = k := by
  unfold inW at e
  split at e
  · rename_i d ds h1 h2
    split at e
    · rename_i hd
      cases e
      obtain ⟨p1, p2⟩ := dp1_of rh ra h1
      obtain ⟨q1, q2⟩ := dp1_of rh rb h2
      exact ⟨d, ds, p1, q1, by unfold SeqAt.shaped; rw [p2, decide_eq_true hd.1]; rfl, by unfold SeqAt.shaped; rw [q2, decide_eq_true hd.2]; rfl, rfl⟩
    · cases e
  · cases e
theorem inS : OpS G (rInD G.K) (cmp .inn) := by
  intro m H h a b x y Q E rh ra rb z
  have z : RV G (Rep G.K) m H (match inW a b h with | some k => .ok (.bl k) h | none => .err) Q E := z
  split at z
  · rename_i k hk
    obtain ⟨d, e, p1, p2, p3, p4, rfl⟩ := inW_dp rh ra rb hk
    exact ⟨d, e, p1, p2, p3, p4, z.here rh .bl'⟩
  · exact z.no
theorem ninS : OpS G (rNotInD G.K) (cmp .nin) := by
  intro m H h a b x y Q E rh ra rb z
  have z : RV G (Rep G.K) m H (match inW a b h with | some k => .ok (.bl (!k)) h | none => .err) Q E := z
  split at z
  · rename_i k hk
    obtain ⟨d, e, p1, p2, p3, p4, rfl⟩ := inW_dp rh ra rb hk
    exact ⟨d, e, p1, p2, p3, p4, z.here rh .bl'⟩
  · exact z.no
theorem ordS {o : Cop} {g : Int → Int → Bool} (e1 : ∀ i j h, cmp o (.int i) (.int j) h = .ok (.bl (g i j)) h) (e2 : ∀ a b h, (∀ i j, ¬ (a = .int i ∧ b = .int j)) → cmp o a b h = .err) :
    OpS G (rI0 fun i j => .bl (g i j)) (cmp o) := by
  intro m H h a b x y Q E rh ra rb z
  by_cases hh : ∃ i j, a = .int i ∧ b = .int j
  · obtain ⟨i, j, rfl, rfl⟩ := hh
    rw [e1] at z
    rw [ra.int_of, rb.int_of]
    exact ⟨i, j, rfl, rfl, z.here rh .bl'⟩
  · rw [e2 a b h fun i j q => hh ⟨i, j, q⟩] at z
    exact z.no
theorem ltS : OpS G (rI0 fun i j => .bl (decide (i < j))) (cmp .lt) := ordS (fun _ _ _ => rfl) fun a b h q => by
  cases a with
  | int i => cases b with
    | int j => exact absurd ⟨rfl, rfl⟩ (q i j)
    | _ => rfl
  | _ => rfl
theorem leS : OpS G (rI0 fun i j => .bl (decide (i ≤ j))) (cmp .le) := ordS (fun _ _ _ => rfl) fun a b h q => by
  cases a with
  | int i => cases b with
    | int j => exact absurd ⟨rfl, rfl⟩ (q i j)
    | _ => rfl
  | _ => rfl
theorem gtS : OpS G (rI0 fun i j => .bl (decide (j < i))) (cmp .gt) := ordS (fun _ _ _ => rfl) fun a b h q => by
  cases a with
  | int i => cases b with
    | int j => exact absurd ⟨rfl, rfl⟩ (q i j)
    | _ => rfl
  | _ => rfl
theorem geS : OpS G (rI0 fun i j => .bl (decide (j ≤ i))) (cmp .ge) := ordS (fun _ _ _ => rfl) fun a b h q => by
  cases a with
  | int i => cases b with
    | int j => exact absurd ⟨rfl, rfl⟩ (q i j)
    | _ => rfl
  | _ => rfl
def isNonW (w : W) : Bool := match w with | .non => true | _ => false
theorem Rep.isNon {w : W} {v : V} (r : Rep G.K H m w v) : decide (v = .non) = isNonW w := by
  cases w with
  | non => rw [r.non_of]; rfl
  | bl b => rw [r.bl_of]; rfl
  | int b => rw [r.int_of]; rfl
  | str b => rw [r.str_of]; rfl
  | tup xs => obtain ⟨a, vs, rfl, _⟩ := r.tup_of; rfl
  | fl xs => obtain ⟨a, vs, rfl, _⟩ := r.fl_of; rfl
  | ref n => obtain ⟨a, _, rfl⟩ := r.ref_of; rfl
  | rg i j => unfold Rep at r; obtain ⟨a, rfl, _⟩ := r; rfl
/-- the right side none -/
theorem isNS {a : W} {x : V} {Q : VK} (rh : RelH G.K m H h) (ra : Rep G.K H m a x) (z : RV G (Rep G.K) m H (cmp .isN a .non h) Q E) : Q (.bl (decide (x = .non))) H := by
  rw [ra.isNon]
  exact z.here rh .bl'
theorem notNS {a : W} {x : V} {Q : VK} (rh : RelH G.K m H h) (ra : Rep G.K H m a x) (z : RV G (Rep G.K) m H (cmp .notN a .non h) Q E) : Q (.bl (!decide (x = .non))) H := by
  rw [ra.isNon]
  have e : cmp .notN a .non h = .ok (.bl (!isNonW a)) h := by
    cases a <;> rfl
  rw [e] at z
  exact z.here rh .bl'

/-! ### truth -/
theorem truS {w : W} {v : V} {k : Bool} (rh : RelH G.K m H h) (r : Rep G.K H m w v) (e : truth w h = some k) : TruV G.K v H k := by
  have emp : ∀ {xs : List W} {vs : List V}, RepL G.K H m xs vs → xs.isEmpty = vs.isEmpty := fun q => by
    have := q.len
    rename_i xs vs
    cases xs <;> cases vs <;> simp_all
  cases w with
  | non => rw [r.non_of]; cases e; rfl
  | bl b => rw [r.bl_of]; cases e; rfl
  | int i => rw [r.int_of]; cases e; rfl
  | str x => cases e
  | rg _ _ => cases e
  | tup xs =>
    obtain ⟨a, vs, rfl, s, q⟩ := r.tup_of
    cases e
    exact .inr (.inl ⟨vs, s.sq, by rw [emp q]⟩)
  | fl xs =>
    obtain ⟨a, vs, rfl, s, q⟩ := r.fl_of
    cases e
    exact .inl ⟨vs, s.sq, by rw [emp q]⟩
  | ref n =>
    obtain ⟨a, e1, rfl⟩ := r.ref_of
    have e : (match h[n]? with | some (.lst xs) => some (!xs.isEmpty) | _ => none) = some k := e
    split at e
    · rename_i xs hx
      cases e
      obtain ⟨vs, f, q⟩ := rh.lst hx e1
      exact .inl ⟨vs, .of f, by rw [emp q]⟩
    · cases e

/-! ### items and slices -/
def rItem (K : PySem.W.Frag) : R2 := fun x y H Q => rIxL K x y H Q ∨ rIxT K x y H Q
theorem itemS : OpS G (rItem G.K) item := by
  intro m H h a b x y Q E rh ra rb z
  cases b with
  | int k =>
    rw [rb.int_of]
    have z : RV G (Rep G.K) m H (match seqOf h a with
      | some xs => match ixN xs.length k with
        | some j => match xs[j]? with
          | some v => .ok v h
          | none => .err
        | none => .err
      | none => .err) Q E := z
    split at z
    · rename_i xs hx
      split at z
      · rename_i j hj
        split at z
        · rename_i w hw
          obtain ⟨p, vs, rfl, q, s⟩ := seq_of rh ra hx
          obtain ⟨v, hv, rv⟩ := q.get hw
          have at1 : atI vs k = some v := by
            unfold atI
            rw [← q.len]
            have : L2.ixN xs.length k = some j := hj
            rw [this]; exact hv
          rcases s with s | s
          · exact .inl ⟨p, vs, k, v, rfl, rfl, s, at1, z.here rh rv⟩
          · exact .inr ⟨p, vs, k, v, rfl, rfl, s, at1, z.here rh rv⟩
        · exact z.no
      · exact z.no
    · exact z.no
  | _ => exact z.no
theorem ix_item {X : Cx} : IxR X (rItem X.K) := ix_list.or ix_tup
def rSlice (K : PySem.W.Frag) : V → Option Int → Option Int → Hp → VK → Prop := fun x lo hi H Q => rSlL K x lo hi H Q ∨ rSlA K x lo hi H Q
theorem sl_slice {X : Cx} : SlR X (rSlice X.K) := sl_list.or sl_tupA
theorem RepL.cutV {xs : List W} {vs : List V} (q : RepL G.K H m xs vs) (lo hi : Option Int) : RepL G.K H m (cut xs lo hi) (L2.cutV vs lo hi) := by
  unfold cut L2.cutV
  have e : ∀ n d o, sIx n d o = HT.sIx n d o := fun n d o => by cases o <;> rfl
  rw [← q.len]
  simp only [e]
  exact (q.drop _).take _
theorem sliceS {a : W} {x : V} {lo hi : Option Int} {Q : VK} (rh : RelH G.K m H h) (ra : Rep G.K H m a x) (z : RV G (Rep G.K) m H (slice a lo hi h) Q E) : rSlice G.K x lo hi H Q := by
  cases a with
  | tup xs =>
    obtain ⟨p, vs, rfl, s, q⟩ := ra.tup_of
    have z : RV G (Rep G.K) m H (.ok (.tup (cut xs lo hi)) h) Q E := z
    refine .inr ⟨p, vs, rfl, s.sq, fun e => ?_, fun _ => z.newT rh (q.cutV lo hi)⟩
    have hc : L2.cutV vs lo hi = vs := by
      unfold L2.cutV
      rw [e.1, e.2, List.drop_zero, Nat.sub_zero, List.take_length]
    have q2 := q.cutV lo hi
    rw [hc] at q2
    exact z.here rh (.tup' s q2)
  | ref n =>
    obtain ⟨p, e1, rfl⟩ := ra.ref_of
    have z : RV G (Rep G.K) m H (match h[n]? with | some (.lst xs) => .ok (.ref h.length) (h ++ [.lst (cut xs lo hi)]) | _ => .err) Q E := z
    split at z
    · rename_i xs hx
      obtain ⟨vs, f, q⟩ := rh.lst hx e1
      exact .inl ⟨p, vs, rfl, .of f, z.newL rh (q.cutV lo hi)⟩
    · exact z.no
  | _ => exact z.no
end

/-! ### built-in functions -/
section
variable {X : Cx} {G : GX}
/-- the value is of a built-in type, as isinstance sees it -/
def TyV (K : PySem.W.Frag) (H : Hp) : V → String → Prop
  | .non, t => t = "NoneType"
  | .bl _, t => t = "bool"
  | .int _, t => t = "int"
  | .str _, t => t = "str"
  | .ref p, t => (t = "list" ∧ ∃ xs, SqL K H p xs) ∨ (t = "tuple" ∧ ∃ xs, SqT K H p xs)
  | _, _ => False
def rIsA (K : PySem.W.Frag) : List V → Hp → VK → Prop := fun xs H Q => ∃ x T t b, xs = [x, .ty T] ∧ TyV K H x t ∧ kitB t T = some b ∧ Q (.bl b) H
theorem call_isA : CallR X (.builtin "isinstance") (rIsA X.K) := by
  intro pins s σ H xs us Q I r hh
  obtain ⟨x, T, t, b, rfl, ty, e, q⟩ := hh
  obtain ⟨u1, u2, rfl, r1, r2⟩ := vals2 r
  cases (show u2 = Value.type T from r2)
  have e' : PySem.W.kitOne X.K (.type t) (.type T) = some b := kit_ty e
  have fin : ∀ tk, EP X pins σ Q (.bool b) { s with toks := tk } := fun tk => ⟨.bl b, H, I.tok tk, rfl, q⟩
  cases x with
  | non => cases (show t = _ from ty); cases (show u1 = Value.none from r1); exact PySem.W.kia_one PySem.W.kitx_none I.kIn True.intro e' (fun z => nomatch z) fin
  | bl y => cases (show t = _ from ty); cases (show u1 = Value.bool y from r1); exact PySem.W.kia_one PySem.W.kitx_bool I.kIn True.intro e' (fun z => nomatch z) fin
  | int i => cases (show t = _ from ty); obtain ⟨t, q⟩ := (show ∃ t, u1 = Value.int i t from r1); cases q; exact PySem.W.kia_one PySem.W.kitx_int I.kIn True.intro e' (fun z => nomatch z) fin
  | str y => cases (show t = _ from ty); obtain ⟨t, q⟩ := (show ∃ t, u1 = Value.str y t from r1); cases q; exact PySem.W.kia_one PySem.W.kitx_str I.kIn True.intro e' (fun z => nomatch z) fin
  | ref p =>
    cases (show u1 = Value.ref p from r1)
    rcases (show (t = "list" ∧ ∃ xs, SqL X.K H p xs) ∨ (t = "tuple" ∧ ∃ xs, SqT X.K H p xs) from ty) with ⟨rfl, xs, hs⟩ | ⟨rfl, xs, hs⟩
    · obtain ⟨its, _, ⟨o, n, ho, hc, _⟩, _⟩ := I.list hs
      exact PySem.W.kia_one PySem.W.kitx_list I.kIn ⟨o, ho, hc⟩ e' (fun z => nomatch z) fin
    · obtain ⟨its, _, ⟨o, ho, hc, _⟩, _⟩ := I.tuple hs
      exact PySem.W.kia_one PySem.W.kitx_tuple I.kIn ⟨o, ho, hc⟩ e' (fun z => nomatch z) fin
  | _ => exact (show False from ty).elim
def Ty.nm : Ty → String
  | .int => "int" | .bool => "bool" | .str => "str" | .tup => "tuple" | .lst => "list"
def isLstT (t : Ty) : Bool := match t with | .lst => true | _ => false
theorem isTyS {m : List Addr} {H : Hp} {h : Hw} {w : W} {v : V} {t : Ty} {k : Bool} (rh : RelH G.K m H h) (r : Rep G.K H m w v) (e : isTy w t h = some k) : ∃ T, TyV G.K H v T ∧ kitB T t.nm = some k := by
  cases w with
  | rg _ _ => cases e
  | non =>
    rw [r.non_of]
    refine ⟨"NoneType", rfl, ?_⟩
    cases e
    cases t <;> decide +kernel
  | bl b =>
    rw [r.bl_of]
    refine ⟨"bool", rfl, ?_⟩
    cases t <;> (cases e; decide +kernel)
  | int b =>
    rw [r.int_of]
    refine ⟨"int", rfl, ?_⟩
    cases t <;> (cases e; decide +kernel)
  | str b =>
    rw [r.str_of]
    refine ⟨"str", rfl, ?_⟩
    cases t <;> (cases e; decide +kernel)
  | tup xs =>
    obtain ⟨a, vs, rfl, s, q⟩ := r.tup_of
    refine ⟨"tuple", .inr ⟨rfl, vs, s.sq⟩, ?_⟩
    cases t <;> (cases e; decide +kernel)
  | fl xs =>
    obtain ⟨a, vs, rfl, s, q⟩ := r.fl_of
    refine ⟨"list", .inl ⟨rfl, vs, s.sq⟩, ?_⟩
    cases t <;> (cases e; decide +kernel)
  | ref n =>
    obtain ⟨a, e1, rfl⟩ := r.ref_of
    have e : (match h[n]? with | some (.lst _) => some (isLstT t) | _ => none) = some k := e
    split at e
    · rename_i xs hx
      obtain ⟨vs, f, q⟩ := rh.lst hx e1
      refine ⟨"list", .inl ⟨rfl, vs, .of f⟩, ?_⟩
      cases t <;> (cases e; decide +kernel)
    · cases e
def rLcm : List V → Hp → VK → Prop := fun vs H Q => ∃ a b : Int, vs = [.int a, .int b] ∧ a.natAbs < 2 ^ 64 ∧ b.natAbs < 2 ^ 64 ∧ Q (.int ((a.natAbs.lcm b.natAbs : Nat) : Int)) H
theorem cr_lcm : CallR X (.builtin "math.lcm") rLcm := by
  intro pins s σ H vs us Q I r hh
  obtain ⟨a, b, rfl, h1, h2, q⟩ := hh
  obtain ⟨u1, u2, rfl, ⟨t, rfl⟩, ⟨t', rfl⟩⟩ := vals2 r
  exact PySem.W.mc_lcm h1 h2 fun _ => ⟨.int _, H, I.tok _, ⟨_, rfl⟩, q⟩
def rDvm : List V → Hp → VK → Prop := fun xs H Q => ∃ i j, xs = [.int i, .int j] ∧ CDivP i j ∧ ∀ p, H p = none → Q (.ref p) (upd H p (.tup [.int (i / j), .int (i % j)]))

/-- what a call by values is -/
def CallS (G : GX) (r : List V → Hp → VK → Prop) (sem : List W → Hw → Res W) : Prop :=
  ∀ (m : List Addr) (H : Hp) (h : Hw) (ws : List W) (vs : List V) (Q : VK) (E : XK), RelH G.K m H h → RepL G.K H m ws vs → RV G (Rep G.K) m H (sem ws h) Q E → r vs H Q
theorem absS : CallS G (fun xs H Q => ∃ i, xs = [.int i] ∧ Q (.int (if i < 0 then -i else i)) H) (bi .abs) := by
  intro m H h ws vs Q E rh r z
  match ws with
  | [] => exact z.no
  | [.int i] =>
    obtain ⟨v, rfl, r1⟩ := r.one
    rw [r1.int_of]
    exact ⟨i, rfl, z.here rh .int'⟩
  | [.non] => exact z.no
  | [.bl _] => exact z.no
  | [.str _] => exact z.no
  | [.tup _] => exact z.no
  | [.fl _] => exact z.no
  | [.ref _] => exact z.no
  | a :: b :: c => cases a <;> exact z.no
theorem toIntS : CallS G (fun xs H Q => (∃ i, xs = [.int i] ∧ Q (.int i) H) ∨ ∃ k, xs = [.bl k] ∧ Q (.int (if k then 1 else 0)) H) (bi .toInt) := by
  intro m H h ws vs Q E rh r z
  match ws with
  | [] => exact z.no
  | [.int i] =>
    obtain ⟨v, rfl, r1⟩ := r.one
    rw [r1.int_of]
    exact .inl ⟨i, rfl, z.here rh .int'⟩
  | [.bl b] =>
    obtain ⟨v, rfl, r1⟩ := r.one
    rw [r1.bl_of]
    exact .inr ⟨b, rfl, z.here rh .int'⟩
  | [.non] => exact z.no
  | [.str _] => exact z.no
  | [.tup _] => exact z.no
  | [.fl _] => exact z.no
  | [.ref _] => exact z.no
  | a :: b :: c => cases a <;> exact z.no
theorem two_ints {f : Bi} {r : List V → Hp → VK → Prop} {sem : Int → Int → Hw → Res W} (e1 : ∀ i j h, bi f [.int i, .int j] h = sem i j h) (e2 : ∀ ws h, (∀ i j, ws ≠ [.int i, .int j]) → bi f ws h = .err)
    (hs : ∀ (m : List Addr) (H : Hp) (h : Hw) (i j : Int) (Q : VK) (E : XK), RelH G.K m H h → RV G (Rep G.K) m H (sem i j h) Q E → r [.int i, .int j] H Q) : CallS G r (bi f) := by
  intro m H h ws vs Q E rh rr z
  by_cases hh : ∃ i j, ws = [.int i, .int j]
  · obtain ⟨i, j, rfl⟩ := hh
    obtain ⟨v, u, rfl, r1, r2⟩ := rr.two
    rw [r1.int_of, r2.int_of]
    rw [e1] at z
    exact hs m H h i j Q E rh z
  · rw [e2 ws h fun i j q => hh ⟨i, j, q⟩] at z
    exact z.no
theorem not2 {f : Bi} (hf : f = .max2 ∨ f = .min2 ∨ f = .divmod ∨ f = .lcm ∨ f = .gcd) : ∀ ws h, (∀ i j, ws ≠ [.int i, .int j]) → bi f ws h = .err := by
  intro ws h q
  match ws with
  | [] => rcases hf with rfl | rfl | rfl | rfl | rfl <;> rfl
  | [a] => rcases hf with rfl | rfl | rfl | rfl | rfl <;> (cases a <;> rfl)
  | [a, b] =>
    cases a with
    | int i =>
      cases b with
      | int j => exact absurd rfl (q i j)
      | _ => rcases hf with rfl | rfl | rfl | rfl | rfl <;> rfl
    | _ => rcases hf with rfl | rfl | rfl | rfl | rfl <;> rfl
  | a :: b :: c :: d =>
    cases a with
    | int i => cases b <;> (rcases hf with rfl | rfl | rfl | rfl | rfl <;> rfl)
    | _ => rcases hf with rfl | rfl | rfl | rfl | rfl <;> rfl
theorem max2S : CallS G (fun xs H Q => ∃ i j, xs = [.int i, .int j] ∧ Q (.int (if j > i then j else i)) H) (bi .max2) :=
  two_ints (sem := fun i j h => .ok (.int (if j > i then j else i)) h) (fun _ _ _ => rfl) (not2 (by simp)) fun m H h i j Q E rh z => ⟨i, j, rfl, z.here rh .int'⟩
theorem min2S : CallS G (fun xs H Q => ∃ i j, xs = [.int i, .int j] ∧ Q (.int (if j < i then j else i)) H) (bi .min2) :=
  two_ints (sem := fun i j h => .ok (.int (if j < i then j else i)) h) (fun _ _ _ => rfl) (not2 (by simp)) fun m H h i j Q E rh z => ⟨i, j, rfl, z.here rh .int'⟩
theorem gcdS : CallS G rGcd (bi .gcd) :=
  two_ints (sem := fun i j h => .ok (.int ((i.natAbs.gcd j.natAbs : Nat) : Int)) h) (fun _ _ _ => rfl) (not2 (by simp)) fun m H h i j Q E rh z => ⟨i, j, rfl, z.here rh .int'⟩
theorem lcmS : CallS G rLcm (bi .lcm) :=
  two_ints (sem := fun i j h => if i.natAbs < 18446744073709551616 ∧ j.natAbs < 18446744073709551616 then .ok (.int ((i.natAbs.lcm j.natAbs : Nat) : Int)) h else .err) (fun _ _ _ => rfl) (not2 (by simp)) fun m H h i j Q E rh z => by
    have z : RV G (Rep G.K) m H (if i.natAbs < 18446744073709551616 ∧ j.natAbs < 18446744073709551616 then .ok (.int ((i.natAbs.lcm j.natAbs : Nat) : Int)) h else .err) Q E := z
    split at z
    · rename_i hh
      exact ⟨i, j, rfl, by omega, by omega, z.here rh .int'⟩
    · exact z.no
theorem dvmS : CallS G rDvm (bi .divmod) :=
  two_ints (sem := fun i j h => if divOk j = true then .ok (.tup [.int (i / j), .int (i % j)]) h else .err) (fun _ _ _ => rfl) (not2 (by simp)) fun m H h i j Q E rh z => by
    have z : RV G (Rep G.K) m H (if divOk j = true then .ok (.tup [.int (i / j), .int (i % j)]) h else .err) Q E := z
    split at z
    · rename_i hd
      unfold divOk at hd
      rw [Bool.and_eq_true, decide_eq_true_eq, decide_eq_true_eq] at hd
      exact ⟨i, j, rfl, ⟨hd.1, PyProof.noPylong_of_log2 (wide_div (i := i) (b := 200) hd.1 (by omega) (by decide) (by decide)).2⟩, z.newT rh (.cons .int' (.cons .int' .nil))⟩
    · exact z.no
end
end Ev

set_option Elab.async false
set_option linter.all false
set_option maxRecDepth 100000
/-! Ev5: built-in functions of a sequence, methods, stores, by values. -/
namespace Ev
open PySem PySem.Spec PyProof.Rows L2
section
variable {G : GX} {m : List Addr} {H : Hp} {h : Hw} {E : XK}
/-- the items of what stands at v -/
def Src (K : PySem.W.Frag) (H : Hp) (m : List Addr) (q : List W × Gu × Bool) (v : V) : Prop :=
  ∃ a vs, v = .ref a ∧ RepL K H m q.1 vs ∧ ((StT K H m a vs ∧ q.2.2 = true) ∨ (q.2.2 = false ∧ (StL K H m a vs ∨ Air H m a vs ∨ ∃ n, m[n]? = some a ∧ H a = some (.lst vs) ∧ q.2.1 = [(n, q.1)])))
theorem Src.sq {q : List W × Gu × Bool} {v : V} (s : Src G.K H m q v) : ∃ a vs, v = .ref a ∧ RepL G.K H m q.1 vs ∧ (SqL G.K H a vs ∨ SqT G.K H a vs) := by
  obtain ⟨a, vs, e, r, s⟩ := s
  rcases s with ⟨s, _⟩ | ⟨_, s | s | ⟨n, _, s, _⟩⟩
  · exact ⟨a, vs, e, r, .inr s.sq⟩
  · exact ⟨a, vs, e, r, .inl s.sq⟩
  · exact ⟨a, vs, e, r, .inl (.of s.1)⟩
  · exact ⟨a, vs, e, r, .inl (.of s)⟩
theorem Src.mono {m' : List Addr} {H' : Hp} {h' : Hw} {q : List W × Gu × Bool} {v : V} (x : Nx m H m' H') (rh : RelH G.K m' H' h') (g : guOk q.2.1 h') (s : Src G.K H m q v) : Src G.K H' m' q v := by
  obtain ⟨a, vs, e, r, s⟩ := s
  rcases s with ⟨s, k⟩ | ⟨k, s | s | ⟨n, e1, s, e2⟩⟩
  · exact ⟨a, vs, e, r.mono x, .inl ⟨s.mono x, k⟩⟩
  · exact ⟨a, vs, e, r.mono x, .inr ⟨k, .inl (s.mono x)⟩⟩
  · exact ⟨a, vs, e, r.mono x, .inr ⟨k, .inr (.inl (s.mono x))⟩⟩
  · have hl : h'[n]? = some (.lst q.1) := g (n, q.1) (by rw [e2]; exact List.mem_cons_self)
    obtain ⟨vs', f, r'⟩ := rh.lst hl (x.get e1)
    exact ⟨a, vs', e, r', .inr ⟨k, .inr (.inr ⟨n, x.get e1, f, e2⟩)⟩⟩
theorem src_val {w : W} {v : V} {xs : List W} (rh : RelH G.K m H h) (r : Rep G.K H m w v) (e : seqOf h w = some xs) : Src G.K H m (xs, guOf w xs, isTup w) v := by
  cases w with
  | tup ys =>
    obtain ⟨a, vs, e1, s, q⟩ := r.tup_of
    cases (show some ys = some xs from e)
    exact ⟨a, vs, e1, q, .inl ⟨s, rfl⟩⟩
  | fl ys =>
    obtain ⟨a, vs, e1, s, q⟩ := r.fl_of
    cases (show some ys = some xs from e)
    exact ⟨a, vs, e1, q, .inr ⟨rfl, .inl s⟩⟩
  | ref n =>
    obtain ⟨a, e1, e2⟩ := r.ref_of
    have e : (match h[n]? with | some (.lst xs) => some xs | _ => none) = some xs := e
    split at e
    · rename_i ys hy
      cases e
      obtain ⟨vs, e3, q⟩ := rh.lst hy e1
      exact ⟨a, vs, e2, q, .inr ⟨rfl, .inr (.inr ⟨n, e1, e3, rfl⟩)⟩⟩
    · cases e
  | _ => cases e
/-- a list just made -/
theorem src_new {xs : List W} {vs : List V} (r : RepL G.K H m xs vs) (rh : RelH G.K m H h) {p : Addr} (hp : H p = none) : Src G.K (upd H p (.lst vs)) m (xs, [], false) (.ref p) :=
  ⟨p, vs, rfl, r.mono (Nx.laid hp), .inr ⟨rfl, .inr (.inl ⟨upd_same, rh.free hp⟩)⟩⟩
theorem ints_of : ∀ {ws : List W} {vs : List V} {ns : List Int}, RepL G.K H m ws vs → toInts ws = some ns → vs = ns.map V.int
  | [], vs, ns, r, e => by
    unfold RepL at r; subst r
    cases e; rfl
  | w :: ws, vs, ns, r, e => by
    obtain ⟨v, q, rfl, r1, r2⟩ := r.uncons
    cases w with
    | int i =>
      have e : (toInts ws).map (i :: ·) = some ns := e
      cases e1 : toInts ws with
      | none => rw [e1] at e; cases e
      | some ms =>
        rw [e1] at e; cases e
        rw [r1.int_of, ints_of r2 e1]; rfl
    | _ => cases e
theorem repL_ints : ∀ ns : List Int, RepL G.K H m (ns.map .int) (ns.map V.int)
  | [] => .nil
  | n :: ns => .cons .int' (repL_ints ns)
/-- a call of one sequence -/
def LcS (G : GX) (r : List V → Hp → VK → Prop) (sem : List W → Hw → Res W) : Prop :=
  ∀ (m : List Addr) (H : Hp) (h : Hw) (a : Addr) (ws : List W) (vs : List V) (Q : VK) (E : XK), RelH G.K m H h → RepL G.K H m ws vs → (StT G.K H m a vs ∨ SqL G.K H a vs) → RV G (Rep G.K) m H (sem ws h) Q E → r [.ref a] H Q
theorem lcS_at {r : List V → Hp → VK → Prop} {sem : List W → Hw → Res W} (l : LcS G r sem) {q : List W × Gu × Bool} {v : V} {Q : VK} (rh : RelH G.K m H h) (s : Src G.K H m q v) (z : RV G (Rep G.K) m H (sem q.1 h) Q E) : r [v] H Q := by
  obtain ⟨a, vs, rfl, r, s⟩ := s
  rcases s with ⟨s, _⟩ | ⟨_, s | s | ⟨n, _, s, _⟩⟩
  · exact l m H h a q.1 vs Q E rh r (.inl s) z
  · exact l m H h a q.1 vs Q E rh r (.inr s.sq) z
  · exact l m H h a q.1 vs Q E rh r (.inr (.of s.1)) z
  · exact l m H h a q.1 vs Q E rh r (.inr (.of s)) z
end
section
variable {X : Cx} {G : GX}
def rSumA (K : PySem.W.Frag) : List V → Hp → VK → Prop := fun vs H Q => ∃ (a : Addr) (ns : List Int), vs = [V.ref a] ∧ (SqL K H a (ns.map V.int) ∨ SqT K H a (ns.map V.int)) ∧ Q (.int ns.sum) H
theorem cr_sumA (hc : X.calm = true) : CallR X (.builtin "sum") (rSumA X.K) := by
  intro pins s σ H vs us Q I r hh
  obtain ⟨a, ns, rfl, hs, q⟩ := hh
  rcases hs with hs | hs
  · exact cr_sum hc pins s σ H _ us Q I r ⟨a, ns, rfl, hs, q⟩
  · obtain ⟨its, rv, hl, _⟩ := I.tuple hs
    rw [Vals.ref1 r]
    have hi := rv.ints
    obtain ⟨xs, hx⟩ := hi.allInts.items
    have hn : numsOf its.toArray.toList = ns := by rw [show its.toArray.toList = its from rfl, hi.numsOf]
    rw [hx] at hl hn
    rw [nums_intItems] at hn
    refine PySem.W.ktm_sumG (I.ok.hd hc) hl fun h' tk t' hk => ?_
    rw [preSum_eq, List.take_of_length_le (by simp), hn]
    exact ⟨.int _, H, I.kept hk, ⟨_, rfl⟩, q⟩
theorem sumS : LcS G (rSumA G.K) (bl .sum) := by
  intro m H h a ws vs Q E rh r s z
  have z : RV G (Rep G.K) m H (match toInts ws with | some ns => .ok (.int ns.sum) h | none => .err) Q E := z
  split at z
  · rename_i ns hn
    have e := ints_of r hn
    subst e
    exact ⟨a, ns, rfl, s.elim (fun x => .inr x.sq) .inl, z.here rh .int'⟩
  · exact z.no
theorem maxL_ge : ∀ (xs : List Int) (b : Int), b ≤ xs.foldl (fun m y => if y > m then y else m) b ∧ (∀ y ∈ xs, y ≤ xs.foldl (fun m y => if y > m then y else m) b) ∧ (xs.foldl (fun m y => if y > m then y else m) b = b ∨ xs.foldl (fun m y => if y > m then y else m) b ∈ xs)
  | [], b => ⟨Int.le_refl _, by simp, .inl rfl⟩
  | x :: xs, b => by
    obtain ⟨h1, h2, h3⟩ := maxL_ge xs (if x > b then x else b)
    have hb : b ≤ (if x > b then x else b) := by split <;> omega
    have hx : x ≤ (if x > b then x else b) := by split <;> omega
    refine ⟨Int.le_trans hb h1, fun y hy => ?_, ?_⟩
    · rcases List.mem_cons.mp hy with rfl | hy
      · exact Int.le_trans hx h1
      · exact h2 y hy
    · show _ ∨ _
      simp only [List.foldl_cons]
      rcases h3 with h3 | h3
      · rw [h3]
        split
        · exact .inr List.mem_cons_self
        · exact .inl rfl
      · exact .inr (List.mem_cons_of_mem _ h3)
theorem minL_le : ∀ (xs : List Int) (b : Int), xs.foldl (fun m y => if y < m then y else m) b ≤ b ∧ (∀ y ∈ xs, xs.foldl (fun m y => if y < m then y else m) b ≤ y) ∧ (xs.foldl (fun m y => if y < m then y else m) b = b ∨ xs.foldl (fun m y => if y < m then y else m) b ∈ xs)
  | [], b => ⟨Int.le_refl _, by simp, .inl rfl⟩
  | x :: xs, b => by
    obtain ⟨h1, h2, h3⟩ := minL_le xs (if x < b then x else b)
    have hb : (if x < b then x else b) ≤ b := by split <;> omega
    have hx : (if x < b then x else b) ≤ x := by split <;> omega
    refine ⟨Int.le_trans h1 hb, fun y hy => ?_, ?_⟩
    · rcases List.mem_cons.mp hy with rfl | hy
      · exact Int.le_trans h1 hx
      · exact h2 y hy
    · show _ ∨ _
      simp only [List.foldl_cons]
      rcases h3 with h3 | h3
      · rw [h3]
        split
        · exact .inr List.mem_cons_self
        · exact .inl rfl
      · exact .inr (List.mem_cons_of_mem _ h3)
theorem maxL_uniq {n : Int} {ns : List Int} {M : Int} (h1 : M ∈ n :: ns) (h2 : ∀ y ∈ n :: ns, y ≤ M) : M = maxL (n :: ns) := by
  obtain ⟨a1, a2, a3⟩ := maxL_ge ns n
  have b1 : maxL (n :: ns) ∈ n :: ns := by
    rcases a3 with a3 | a3
    · exact List.mem_cons.mpr (.inl a3)
    · exact List.mem_cons_of_mem _ a3
  have b2 : M ≤ maxL (n :: ns) := by
    rcases List.mem_cons.mp h1 with rfl | h1
    · exact a1
    · exact a2 M h1
  exact Int.le_antisymm b2 (h2 _ b1)
theorem minL_uniq {n : Int} {ns : List Int} {M : Int} (h1 : M ∈ n :: ns) (h2 : ∀ y ∈ n :: ns, M ≤ y) : M = minL (n :: ns) := by
  obtain ⟨a1, a2, a3⟩ := minL_le ns n
  have b1 : minL (n :: ns) ∈ n :: ns := by
    rcases a3 with a3 | a3
    · exact List.mem_cons.mpr (.inl a3)
    · exact List.mem_cons_of_mem _ a3
  have b2 : minL (n :: ns) ≤ M := by
    rcases List.mem_cons.mp h1 with rfl | h1
    · exact a1
    · exact a2 M h1
  exact Int.le_antisymm (h2 _ b1) b2
def rMaxT (K : PySem.W.Frag) : List V → Hp → VK → Prop := fun vs H Q => ∃ (a : Addr) (ns : List Int), vs = [V.ref a] ∧ (SqL K H a (ns.map V.int) ∨ SqT K H a (ns.map V.int)) ∧ 0 < ns.length ∧ ∀ m, m ∈ ns → (∀ y, y ∈ ns → y ≤ m) → Q (.int m) H
def rMinT (K : PySem.W.Frag) : List V → Hp → VK → Prop := fun vs H Q => ∃ (a : Addr) (ns : List Int), vs = [V.ref a] ∧ (SqL K H a (ns.map V.int) ∨ SqT K H a (ns.map V.int)) ∧ 0 < ns.length ∧ ∀ m, m ∈ ns → (∀ y, y ∈ ns → m ≤ y) → Q (.int m) H
theorem tup_old {s : Shared} {l : Addr} {h' : Heap} (hk : ∀ b o, b ∉ [s.heap.objs.size] → (s.heap.push { cls := .type "tuple_iterator", data := .fields #[.ref l, .int 0 0] }).get? b = some o → h'.get? b = some o) :
    ∀ b o, s.heap.get? b = some o → h'.get? b = some o := fun b o e => by
  refine hk b o (fun hm => ?_) (Heap.get?_push_of_some _ e)
  rcases List.mem_cons.mp hm with e1 | hm
  · exact absurd (e1 ▸ Heap.lt_size e) (Nat.lt_irrefl _)
  · cases hm
theorem max_intTup {prog : Program} {w : World} {A : Around} {E : Value → Shared → Prop} {s : Shared} {t : Addr} {xs : Array (Int × Tok)} {Q : Value → Shared → Prop} (hh : A.handled = none) (ht : s.heap.IsTuple t (intItems xs)) (hne : 0 < xs.size)
    (h : ∀ v h' tk, (intItems xs)[argBest (fun i j => decide (numAt xs i > numAt xs j)) (xs.size - 1)]? = some v → (∀ b o, s.heap.get? b = some o → h'.get? b = some o) → Q v { s with heap := h', toks := tk }) :
    wpAny (model prog w) A (call (.builtin "max") [.ref t]) Q E s := by
  obtain ⟨o, ho, hc, n, hd⟩ := id ht
  have hne' : t ≠ s.heap.objs.size := Nat.ne_of_lt (Heap.lt_size ho)
  refine call_max_walk (wpAny_pyIter_tuple ht ?_)
  refine ⟨_, _, _, _, _, _, _, rfl, Walks.tuple (A := A.in1) hh _ t hne' (intItems xs), ⟨⟨_, Heap.get?_push_size _ rfl, rfl, rfl⟩, ht.at fun o e => Heap.get?_push_of_some _ e⟩, fun b hb => ?_, by simpa [intItems] using hne, CmpOf.ints_gt (numAt xs) (fun _ _ => intItems_at), fun v h' tk hP hk => ?_⟩
  · rcases List.mem_cons.mp hb with rfl | hb
    · exact Heap.lt_size (Heap.get?_push_size _ rfl)
    · obtain rfl := List.mem_singleton.mp hb
      exact Heap.lt_size (Heap.get?_push_of_some _ ho)
  · exact h v h' tk (by simpa [intItems] using hP) (tup_old hk)
theorem min_intTup {prog : Program} {w : World} {A : Around} {E : Value → Shared → Prop} {s : Shared} {t : Addr} {xs : Array (Int × Tok)} {Q : Value → Shared → Prop} (hh : A.handled = none) (ht : s.heap.IsTuple t (intItems xs)) (hne : 0 < xs.size)
    (h : ∀ v h' tk, (intItems xs)[argBest (fun i j => decide (numAt xs i < numAt xs j)) (xs.size - 1)]? = some v → (∀ b o, s.heap.get? b = some o → h'.get? b = some o) → Q v { s with heap := h', toks := tk }) :
    wpAny (model prog w) A (call (.builtin "min") [.ref t]) Q E s := by
  obtain ⟨o, ho, hc, n, hd⟩ := id ht
  have hne' : t ≠ s.heap.objs.size := Nat.ne_of_lt (Heap.lt_size ho)
  refine call_min_walk (wpAny_pyIter_tuple ht ?_)
  refine ⟨_, _, _, _, _, _, _, rfl, Walks.tuple (A := A.in1) hh _ t hne' (intItems xs), ⟨⟨_, Heap.get?_push_size _ rfl, rfl, rfl⟩, ht.at fun o e => Heap.get?_push_of_some _ e⟩, fun b hb => ?_, by simpa [intItems] using hne, CmpOf.ints_lt (numAt xs) (fun _ _ => intItems_at), fun v h' tk hP hk => ?_⟩
  · rcases List.mem_cons.mp hb with rfl | hb
    · exact Heap.lt_size (Heap.get?_push_size _ rfl)
    · obtain rfl := List.mem_singleton.mp hb
      exact Heap.lt_size (Heap.get?_push_of_some _ ho)
  · exact h v h' tk (by simpa [intItems] using hP) (tup_old hk)
theorem cr_maxA (hc : X.calm = true) : CallR X (.builtin "max") (rMaxT X.K) := by
  intro pins s σ H vs us Q I r hh
  obtain ⟨a, ns, rfl, hs, hne, q⟩ := hh
  rcases hs with hs | hs
  · exact cr_max hc pins s σ H _ us Q I r ⟨a, ns, rfl, hs, hne, q⟩
  · obtain ⟨its, rv, hl, _⟩ := I.tuple hs
    rw [Vals.ref1 r]
    obtain ⟨xs, e⟩ := rv.ints.allInts.items
    have hn : numsOf (intItems xs).toList = ns := by rw [← e]; exact rv.ints.numsOf
    rw [nums_intItems] at hn
    subst hn
    rw [e] at hl
    have hsz : 0 < xs.size := by simpa using hne
    refine max_intTup (I.ok.hd hc) hl hsz fun v h' tk hv hk => ?_
    obtain ⟨t, rfl⟩ := intItems_at hv
    obtain ⟨h1, h2⟩ := argBest_gt (numAt xs) (xs.size - 1)
    refine ⟨.int _, H, I.kept hk, ⟨_, rfl⟩, q _ ?_ fun a ha => ?_⟩
    · rw [numAt_eq]; exact PySem.getD_mem (by rw [List.length_map, Array.length_toList]; omega)
    · obtain ⟨j, hj, rfl⟩ := mem_getD ha
      rw [List.length_map, Array.length_toList] at hj
      rw [← numAt_eq]; exact h2 j (by omega)
theorem cr_minA (hc : X.calm = true) : CallR X (.builtin "min") (rMinT X.K) := by
  intro pins s σ H vs us Q I r hh
  obtain ⟨a, ns, rfl, hs, hne, q⟩ := hh
  rcases hs with hs | hs
  · exact cr_min hc pins s σ H _ us Q I r ⟨a, ns, rfl, hs, hne, q⟩
  · obtain ⟨its, rv, hl, _⟩ := I.tuple hs
    rw [Vals.ref1 r]
    obtain ⟨xs, e⟩ := rv.ints.allInts.items
    have hn : numsOf (intItems xs).toList = ns := by rw [← e]; exact rv.ints.numsOf
    rw [nums_intItems] at hn
    subst hn
    rw [e] at hl
    have hsz : 0 < xs.size := by simpa using hne
    refine min_intTup (I.ok.hd hc) hl hsz fun v h' tk hv hk => ?_
    obtain ⟨t, rfl⟩ := intItems_at hv
    obtain ⟨h1, h2⟩ := argBest_lt (numAt xs) (xs.size - 1)
    refine ⟨.int _, H, I.kept hk, ⟨_, rfl⟩, q _ ?_ fun a ha => ?_⟩
    · rw [numAt_eq]; exact PySem.getD_mem (by rw [List.length_map, Array.length_toList]; omega)
    · obtain ⟨j, hj, rfl⟩ := mem_getD ha
      rw [List.length_map, Array.length_toList] at hj
      rw [← numAt_eq]; exact h2 j (by omega)
theorem maxS : LcS G (rMaxT G.K) (bl .max) := by
  intro m H h a ws vs Q E rh r s z
  have z : RV G (Rep G.K) m H (match toInts ws with | some (n :: ns) => .ok (.int (maxL (n :: ns))) h | _ => .err) Q E := z
  split at z
  · rename_i n ns hn
    have e := ints_of r hn
    subst e
    exact ⟨a, n :: ns, rfl, s.elim (fun x => .inr x.sq) .inl, by simp, fun M h1 h2 => by rw [maxL_uniq h1 h2]; exact z.here rh .int'⟩
  · exact z.no
theorem minS : LcS G (rMinT G.K) (bl .min) := by
  intro m H h a ws vs Q E rh r s z
  have z : RV G (Rep G.K) m H (match toInts ws with | some (n :: ns) => .ok (.int (minL (n :: ns))) h | _ => .err) Q E := z
  split at z
  · rename_i n ns hn
    have e := ints_of r hn
    subst e
    exact ⟨a, n :: ns, rfl, s.elim (fun x => .inr x.sq) .inl, by simp, fun M h1 h2 => by rw [minL_uniq h1 h2]; exact z.here rh .int'⟩
  · exact z.no
def rTupA (K : PySem.W.Frag) : List V → Hp → VK → Prop := fun xs H Q => ∃ p ys, xs = [.ref p] ∧ ((SqL K H p ys ∧ ∀ l, H l = none → Q (.ref l) (upd H l (.tup ys))) ∨ (SqT K H p ys ∧ Q (.ref p) H))
theorem tupleS : LcS G (rTupA G.K) (bl .tuple) := by
  intro m H h a ws vs Q E rh r s z
  have z : RV G (Rep G.K) m H (.ok (.tup ws) h) Q E := z
  rcases s with s | s
  · exact ⟨a, vs, rfl, .inr ⟨s.sq, z.here rh (.tup' s r)⟩⟩
  · exact ⟨a, vs, rfl, .inl ⟨s, z.newT rh r⟩⟩
theorem listS : LcS G (fun xs H Q => ∃ p ys, xs = [.ref p] ∧ (SqL G.K H p ys ∨ SqT G.K H p ys) ∧ ∀ l, H l = none → Q (.ref l) (upd H l (.lst ys))) (bl .list) := by
  intro m H h a ws vs Q E rh r s z
  have z : RV G (Rep G.K) m H (.ok (.ref h.length) (h ++ [.lst ws])) Q E := z
  exact ⟨a, vs, rfl, s.elim (fun x => .inr x.sq) .inl, z.newL rh r⟩
theorem lenS : LcS G (fun xs H Q => ∃ p ys, xs = [.ref p] ∧ (SqL G.K H p ys ∨ SqT G.K H p ys) ∧ Q (.int ys.length) H) (bl .len) := by
  intro m H h a ws vs Q E rh r s z
  have z : RV G (Rep G.K) m H (.ok (.int ws.length) h) Q E := z
  refine ⟨a, vs, rfl, s.elim (fun x => .inr x.sq) .inl, ?_⟩
  rw [← r.len]
  exact z.here rh .int'
theorem ins_perm (x : Int) : ∀ ys : List Int, (ins x ys).Perm (x :: ys)
  | [] => .refl _
  | y :: ys => by
    unfold ins
    split
    · exact .refl _
    · exact ((ins_perm x ys).cons y).trans (.swap x y ys)
theorem isort_perm : ∀ xs : List Int, (isort xs).Perm xs
  | [] => .refl _
  | x :: xs => (ins_perm x (isort xs)).trans ((isort_perm xs).cons x)
theorem ins_sorted (x : Int) : ∀ ys : List Int, ys.Pairwise (· ≤ ·) → (ins x ys).Pairwise (· ≤ ·)
  | [], _ => by unfold ins; exact List.pairwise_singleton _ _
  | y :: ys, h => by
    unfold ins
    split
    · rename_i hx
      refine List.pairwise_cons.mpr ⟨fun z hz => ?_, h⟩
      rcases List.mem_cons.mp hz with rfl | hz
      · exact hx
      · exact Int.le_trans hx ((List.pairwise_cons.mp h).1 z hz)
    · rename_i hx
      refine List.pairwise_cons.mpr ⟨fun z hz => ?_, ins_sorted x ys (List.pairwise_cons.mp h).2⟩
      rcases List.mem_cons.mp ((ins_perm x ys).mem_iff.mp hz) with rfl | hz
      · omega
      · exact (List.pairwise_cons.mp h).1 z hz
theorem isort_sorted : ∀ xs : List Int, (isort xs).Pairwise (· ≤ ·)
  | [] => .nil
  | x :: xs => ins_sorted x _ (isort_sorted xs)
theorem sorted_uniq : ∀ {xs ys : List Int}, xs.Perm ys → xs.Pairwise (· ≤ ·) → ys.Pairwise (· ≤ ·) → xs = ys
  | [], ys, p, _, _ => (List.nil_perm.mp p).symm
  | x :: xs, [], p, _, _ => by
    have := p.length_eq
    simp at this
  | x :: xs, y :: ys, p, h1, h2 => by
    have hx : x = y := by
      have a1 : x ∈ y :: ys := p.mem_iff.mp List.mem_cons_self
      have a2 : y ∈ x :: xs := p.mem_iff.mpr List.mem_cons_self
      have b1 : y ≤ x := by
        rcases List.mem_cons.mp a1 with rfl | a1
        · exact Int.le_refl _
        · exact (List.pairwise_cons.mp h2).1 x a1
      have b2 : x ≤ y := by
        rcases List.mem_cons.mp a2 with rfl | a2
        · exact Int.le_refl _
        · exact (List.pairwise_cons.mp h1).1 y a2
      omega
    subst hx
    rw [sorted_uniq (List.Perm.cons_inv p) (List.pairwise_cons.mp h1).2 (List.pairwise_cons.mp h2).2]

/-! ### methods -/
def MtS (G : GX) (r : V → List V → Hp → VK → Prop) (f : Mt) : Prop :=
  ∀ (m : List Addr) (H : Hp) (h : Hw) (o : W) (x : V) (ws : List W) (vs : List V) (Q : VK) (E : XK), RelH G.K m H h → Rep G.K H m o x → RepL G.K H m ws vs → RV G (Rep G.K) m H (mt f o ws h) Q E → r x vs H Q
/-- a list of ours is changed -/
theorem RV.put {m : List Addr} {H : Hp} {h : Hw} {E : XK} {w : W} {v : V} {xs : List W} {vs : List V} {n : Nat} {a : Addr} {Q : VK} (z : RV G (Rep G.K) m H (.ok w (h.set n (.lst xs))) Q E) (rh : RelH G.K m H h) (e : m[n]? = some a) (r : RepL G.K H m xs vs) (q : Rep G.K H m w v) : Q v (upd H a (.lst vs)) :=
  z m _ v (Nx.put (List.mem_of_getElem? e)) (rh.put e r) (q.mono (Nx.put (List.mem_of_getElem? e)))
theorem mt_o {f : Mt} {o : W} {ws : List W} {h : Hw} (hf : ∀ p, o ≠ .ref p) : mt f o ws h = .err := by
  cases o with
  | ref p => exact absurd rfl (hf p)
  | _ => cases f <;> rfl
theorem appendS : MtS G rAppend .append := by
  intro m H h o x ws vs Q E rh ro r z
  by_cases ho : ∃ p, o = .ref p
  · obtain ⟨p, rfl⟩ := ho
    obtain ⟨a, e1, rfl⟩ := ro.ref_of
    match ws with
    | [] => exact z.no
    | [v] =>
      obtain ⟨y, rfl, r1⟩ := r.one
      have z : RV G (Rep G.K) m H (match h[p]? with
        | some (.lst xs) => if xs.length < lim then .ok .non (h.set p (.lst (xs ++ [v]))) else .err
        | _ => .err) Q E := z
      split at z
      · rename_i xs hx
        split at z
        · rename_i hl
          obtain ⟨zs, f, q⟩ := rh.lst hx e1
          exact ⟨a, zs, y, rfl, rfl, f, by rw [← q.len, ← lim_eq]; exact hl, z.put rh e1 (q.append (.cons r1 .nil)) .non'⟩
        · exact z.no
      · exact z.no
    | a :: b :: c => exact z.no
  · rw [mt_o fun p e => ho ⟨p, e⟩] at z
    exact z.no
theorem extendS : MtS G rExtend .extend := by
  intro m H h o x ws vs Q E rh ro r z
  by_cases ho : ∃ p, o = .ref p
  · obtain ⟨p, rfl⟩ := ho
    obtain ⟨a, e1, rfl⟩ := ro.ref_of
    match ws with
    | [] => exact z.no
    | [.ref n] =>
      obtain ⟨y, rfl, r1⟩ := r.one
      obtain ⟨b, e2, rfl⟩ := r1.ref_of
      have z : RV G (Rep G.K) m H (match h[p]?, h[n]? with
        | some (.lst xs), some (.lst ys) => if xs.length + ys.length ≤ lim then .ok .non (h.set p (.lst (xs ++ ys))) else .err
        | _, _ => .err) Q E := z
      split at z
      · rename_i xs ys hx hy
        split at z
        · rename_i hl
          obtain ⟨zs, f, q⟩ := rh.lst hx e1
          obtain ⟨zs2, f2, q2⟩ := rh.lst hy e2
          exact ⟨a, b, zs, zs2, rfl, rfl, f, f2, by rw [← q.len, ← q2.len, ← lim_eq]; exact hl, z.put rh e1 (q.append q2) .non'⟩
        · exact z.no
      · exact z.no
    | [.non] => exact z.no
    | [.bl _] => exact z.no
    | [.int _] => exact z.no
    | [.str _] => exact z.no
    | [.tup _] => exact z.no
    | [.fl _] => exact z.no
    | a :: b :: c => cases a <;> exact z.no
  · rw [mt_o fun p e => ho ⟨p, e⟩] at z
    exact z.no
theorem popS : MtS G rPop .pop := by
  intro m H h o x ws vs Q E rh ro r z
  by_cases ho : ∃ p, o = .ref p
  · obtain ⟨p, rfl⟩ := ho
    obtain ⟨a, e1, rfl⟩ := ro.ref_of
    match ws with
    | [] =>
      have hv : vs = [] := by unfold RepL at r; exact r
      subst hv
      have z : RV G (Rep G.K) m H (match h[p]? with
        | some (.lst xs) => match xs[xs.length - 1]? with
          | some v => .ok v (h.set p (.lst xs.dropLast))
          | none => .err
        | _ => .err) Q E := z
      split at z
      · rename_i xs hx
        split at z
        · rename_i w hw
          obtain ⟨zs, f, q⟩ := rh.lst hx e1
          obtain ⟨v, hv, rv⟩ := q.get hw
          exact ⟨a, zs, v, rfl, rfl, f, by rw [← q.len]; exact hv, z.put rh e1 q.dropLast rv⟩
        · exact z.no
      · exact z.no
    | a :: c => exact z.no
  · rw [mt_o fun p e => ho ⟨p, e⟩] at z
    exact z.no
theorem RepL.erase {K : PySem.W.Frag} {H : Hp} {m : List Addr} : ∀ {ws : List W} {vs : List V} (k : Nat), RepL K H m ws vs → RepL K H m (ws.eraseIdx k) (vs.eraseIdx k)
  | [], _, k, r => by
    have hv := r
    unfold RepL at hv
    subst hv
    simp only [List.eraseIdx_nil]
    exact r
  | w :: ws, _, 0, r => by
    obtain ⟨v, q, rfl, r1, r2⟩ := r.uncons
    exact r2
  | w :: ws, _, k + 1, r => by
    obtain ⟨v, q, rfl, r1, r2⟩ := r.uncons
    exact .cons r1 (RepL.erase k r2)
theorem popAtS : MtS G rPopAt .popAt := by
  intro m H h o x ws vs Q E rh ro r z
  by_cases ho : ∃ p, o = .ref p
  · obtain ⟨p, rfl⟩ := ho
    obtain ⟨a, e1, rfl⟩ := ro.ref_of
    match ws with
    | [.int i] =>
      obtain ⟨v, q, rfl, r1, r2⟩ := r.uncons
      have hq : q = [] := by unfold RepL at r2; exact r2
      subst hq
      rw [r1.int_of]
      have z : RV G (Rep G.K) m H (if -(2 ^ 62) ≤ i ∧ i < 2 ^ 62 then match h[p]? with
        | some (.lst xs) => match ixN xs.length i with
          | some k => match xs[k]? with
            | some v => .ok v (h.set p (.lst (xs.eraseIdx k)))
            | none => .err
          | none => .err
        | _ => .err
        else .err) Q E := z
      split at z
      · rename_i hb
        split at z
        · rename_i xs hx
          split at z
          · rename_i k hk
            split at z
            · rename_i w hw
              obtain ⟨zs, f, q⟩ := rh.lst hx e1
              obtain ⟨v, hv, rv⟩ := q.get hw
              exact ⟨a, zs, i, k, v, rfl, rfl, f, by omega, by omega, by rw [← q.len]; exact (L2.ixN_seq hk).1, hv, z.put rh e1 (q.erase k) rv⟩
            · exact z.no
          · exact z.no
        · exact z.no
      · exact z.no
    | [] => exact z.no
    | [.non] => exact z.no
    | [.bl _] => exact z.no
    | [.str _] => exact z.no
    | [.tup _] => exact z.no
    | [.fl _] => exact z.no
    | [.ref _] => exact z.no
    | a :: b :: c => cases a <;> exact z.no
  · rw [mt_o fun p e => ho ⟨p, e⟩] at z
    exact z.no
theorem indexS : MtS G (rIndexD G.K) .index := by
  intro m H h o x ws vs Q E rh ro r z
  by_cases ho : ∃ p, o = .ref p
  · obtain ⟨p, rfl⟩ := ho
    have ro2 := ro
    obtain ⟨a, e1, rfl⟩ := ro.ref_of
    match ws with
    | [w] =>
      obtain ⟨v, q, rfl, r1, r2⟩ := r.uncons
      have hq : q = [] := by unfold RepL at r2; exact r2
      subst hq
      have z : RV G (Rep G.K) m H (match ixW w (.ref p) h with | some k => .ok (.int k) h | none => .err) Q E := z
      split at z
      · rename_i k hk
        unfold ixW at hk
        split at hk
        · rename_i d ds h1 h2
          split at hk
          · rename_i hd
            obtain ⟨p1, p2⟩ := dp1_of rh r1 h1
            obtain ⟨q1, q2⟩ := dp1_of rh ro2 h2
            obtain ⟨hl, e3, e4⟩ := List.findIdx?_eq_some_iff_getElem.mp hk
            refine ⟨a, v, d, ds, k, ds[k], rfl, rfl, q1, p1, by unfold SeqAt.shaped; rw [q2, decide_eq_true hd.2]; rfl, by unfold SeqAt.shaped; rw [p2, decide_eq_true hd.1]; rfl, List.getElem?_eq_getElem hl, e3, fun j z' hj hz => ?_, z.here rh .int'⟩
            obtain ⟨hj2, rfl⟩ := List.getElem?_eq_some_iff.mp hz
            simpa using e4 j hj
          · cases hk
        · cases hk
      · exact z.no
    | [] => exact (show RV G (Rep G.K) m H .err Q E from z).no
    | _ :: _ :: _ => exact (show RV G (Rep G.K) m H .err Q E from z).no
  · rw [mt_o fun p q => ho ⟨p, q⟩] at z
    exact z.no
theorem ixN_seq' {n : Nat} {i : Int} {k : Nat} (h : ixN n i = some k) : seqIndex? i n = some k ∧ k < n ∧ -(n : Int) ≤ i ∧ i < n := L2.ixN_seq h
def rSetI : V → V → V → Hp → (Hp → Prop) → Prop := rSetL
theorem setS {m : List Addr} {H : Hp} {h h' : Hw} {o i w : W} {x y v : V} (rh : RelH G.K m H h) (ro : Rep G.K H m o x) (ri : Rep G.K H m i y) (rw_ : Rep G.K H m w v) (e : setIt o i w h = some h') {Q : Hp → Prop}
    (z : ∀ m' H', Nx m H m' H' → RelH G.K m' H' h' → Q H') : rSetL x y v H Q := by
  cases o with
  | ref p =>
    cases i with
    | int k =>
      obtain ⟨a, e1, rfl⟩ := ro.ref_of
      rw [ri.int_of]
      have e : (match h[p]? with
        | some (.lst xs) => match ixN xs.length k with
          | some j => some (h.set p (.lst (xs.set j w)))
          | none => none
        | _ => none) = some h' := e
      split at e
      · rename_i xs hx
        split at e
        · rename_i j hj
          cases e
          obtain ⟨zs, f, q⟩ := rh.lst hx e1
          have hj' : L2.ixN zs.length k = some j := by rw [← q.len]; exact hj
          exact ⟨a, zs, k, j, rfl, rfl, f, hj', z m _ (Nx.put (List.mem_of_getElem? e1)) (rh.put e1 (q.set rw_ j))⟩
        · cases e
      · cases e
    | _ => cases e
  | _ => cases e
end
end Ev

set_option Elab.async false
set_option linter.all false
set_option maxRecDepth 100000
/-! Ev6: readings of our meaning in the hand layer; the judgements, construct by construct. -/
namespace Ev
open PySem PySem.Spec PyProof.Rows L2

def gx (X : Cx) (cl : List Value) : GX := ⟨X.prog, X.w, X.K, X.mg, X.base, cl⟩
def tR {α β : Type} (G : GX) (Wx : WX) (R : Hp → List Addr → α → β → Prop) (ev : En → Hw → Res α) : L2.St → Hp → (β → Hp → Prop) → Prop := fun σ H Q =>
  ∃ m ρ h, RepS G.K H m ρ σ ∧ RelH G.K m H h ∧ RV G R m H (ev ρ h) Q (fun c d H' => Wx c d σ H')
abbrev tE (G : GX) (Wx : WX) (ev : En → Hw → Res W) : TE := tR G Wx (Rep G.K) ev
abbrev tEs (G : GX) (Wx : WX) (ev : En → Hw → Res (List W)) : TA := tR G Wx (RepL G.K) ev
def Same {α : Type} : Hp → List Addr → α → α → Prop := fun _ _ a b => b = a
abbrev tT (G : GX) (Wx : WX) (ev : En → Hw → Res Bool) : TT := tR G Wx Same ev
abbrev tP (G : GX) (Wx : WX) (ev : En → Hw → Res (Option Int)) : TO := tR G Wx Same ev
abbrev tL (G : GX) (Wx : WX) (ev : En → Hw → Res (List W × Gu × Bool)) : TE := tR G Wx (Src G.K) ev

section
variable {G : GX} {Wx : WX} {σ : L2.St} {H : Hp}
/-- one part behind another -/
theorem tR.bind {α β α' β' : Type} {R : Hp → List Addr → α → β → Prop} {R' : Hp → List Addr → α' → β' → Prop} {f : En → Hw → Res α} {g : En → α → Hw → Res α'} {Q : β' → Hp → Prop} {Q' : β → Hp → Prop}
    (z : tR G Wx R' (fun ρ h => (f ρ h).bind (g ρ)) σ H Q)
    (k : ∀ m ρ a b h H1, RepS G.K H1 m ρ σ → RelH G.K m H1 h → R H1 m a b → RV G R' m H1 (g ρ a h) Q (fun c d H' => Wx c d σ H') → Q' b H1) : tR G Wx R f σ H Q' := by
  obtain ⟨m, ρ, h, rs, rh, z⟩ := z
  exact ⟨m, ρ, h, rs, rh, (RV.bind z).mono fun b H1 ⟨m1, a, h1, n, rh1, r, z1⟩ => k m1 ρ a b h1 H1 (rs.mono n) rh1 r z1⟩
/-- go on with a part -/
theorem tR.next {α β α' β' : Type} {R : Hp → List Addr → α → β → Prop} {R' : Hp → List Addr → α' → β' → Prop} {m : List Addr} {ρ : En} {h : Hw} {f : En → Hw → Res α} {g : α → Hw → Res α'} {Q : β' → Hp → Prop} {Q' : β → Hp → Prop}
    (rs : RepS G.K H m ρ σ) (rh : RelH G.K m H h) (z : RV G R' m H ((f ρ h).bind g) Q (fun c d H' => Wx c d σ H'))
    (k : ∀ m1 a b h1 H1, Nx m H m1 H1 → RepS G.K H1 m1 ρ σ → RelH G.K m1 H1 h1 → R H1 m1 a b → RV G R' m1 H1 (g a h1) Q (fun c d H' => Wx c d σ H') → Q' b H1) : tR G Wx R f σ H Q' :=
  ⟨m, ρ, h, rs, rh, (RV.bind z).mono fun b H1 ⟨m1, a, h1, n, rh1, r, z1⟩ => k m1 a b h1 H1 n (rs.mono n) rh1 r z1⟩
theorem tR.here {α β : Type} {R : Hp → List Addr → α → β → Prop} {m : List Addr} {ρ : En} {h : Hw} {f : En → Hw → Res α} {Q : β → Hp → Prop} (rs : RepS G.K H m ρ σ) (rh : RelH G.K m H h) (z : RV G R m H (f ρ h) Q (fun c d H' => Wx c d σ H')) : tR G Wx R f σ H Q :=
  ⟨m, ρ, h, rs, rh, z⟩
end
section
variable {X : Cx} {cl : List Value} {Wx : WX} {pos : Pos}
theorem conseq {e : Expr} {t t' : TE} (p : PE X e t) (h : ∀ σ H Q, t' σ H Q → t σ H Q) : PE X e t' := ⟨fun pins s σ H Q I z => p.run pins s σ H Q I (h σ H Q z)⟩
theorem conseqT {e : Expr} {t t' : TT} (p : PT X e t) (h : ∀ σ H Q, t' σ H Q → t σ H Q) : PT X e t' := ⟨fun pins s σ H Q I z => p.run pins s σ H Q I (h σ H Q z)⟩
theorem conseqW {e : Expr} {t t' : TT} (p : PW X e t) (h : ∀ σ H Q, t' σ H Q → t σ H Q) : PW X e t' := ⟨fun wh pins s σ H Q I z => p.run wh pins s σ H Q I (h σ H Q z)⟩
theorem conseqA {es : List Expr} {t t' : TA} (p : PA X es t) (h : ∀ σ H Q, t' σ H Q → t σ H Q) : PA X es t' := ⟨fun ps pins s σ H Q I z => p.run ps pins s σ H Q I (h σ H Q z)⟩
theorem conseqO {e : Option Expr} {t t' : TO} (p : PO X e t) (h : ∀ σ H Q, t' σ H Q → t σ H Q) : PO X e t' := ⟨fun pins s σ H Q I z => p.run pins s σ H Q I (h σ H Q z)⟩
theorem conseqS {st : Stmt} {t t' : TS} (p : PS X st t) (h : ∀ D σ H, t' D σ H → t D σ H) : PS X st t' := ⟨fun pins s σ H D I z => p.run pins s σ H D I (h D σ H z)⟩
theorem conseqSs {st : List Stmt} {t t' : TS} (p : PSs X st t) (h : ∀ D σ H, t' D σ H → t D σ H) : PSs X st t' := ⟨fun pins s σ H D I z => p.run pins s σ H D I (h D σ H z)⟩
theorem PE.or {e : Expr} {t t' : TE} (p : PE X e t) (q : PE X e t') : PE X e (fun σ H Q => t σ H Q ∨ t' σ H Q) := ⟨fun pins s σ H Q I z => z.elim (p.run pins s σ H Q I) (q.run pins s σ H Q I)⟩

/-! ### expressions -/
theorem s_var {i : Nat} {x : Str} (hN : X.N[i]? = some x) (hv : Vis X.env.scope x) (hd : (x == ("__debug__" : Str)) = false) (hcd : (x == ("__classdict__" : Str)) = false) :
    PE X (.Name x pos) (tE (gx X cl) Wx fun ρ h => match ρ[i]? with | some (some w) => .ok w h | _ => .err) :=
  conseq (pe_var hN hv hd hcd) fun σ H Q ⟨m, ρ, h, rs, rh, z⟩ => by
    try dsimp only at z
    split at z
    · rename_i w e
      obtain ⟨v, e2, r⟩ := rs.get e
      exact ⟨v, e2, z.here rh r⟩
    · exact z.no
theorem s_int {i : Int} {j : Nat} : PE X (.Constant (.int i) j pos) (tE (gx X cl) Wx fun _ h => .ok (.int i) h) := conseq pe_int fun _ _ _ ⟨_, _, _, _, rh, z⟩ => z.here rh .int'
theorem s_bl {i : Bool} {j : Nat} : PE X (.Constant (.bool i) j pos) (tE (gx X cl) Wx fun _ h => .ok (.bl i) h) := conseq pe_bl fun _ _ _ ⟨_, _, _, _, rh, z⟩ => z.here rh .bl'
theorem s_non {j : Nat} : PE X (.Constant .none j pos) (tE (gx X cl) Wx fun _ h => .ok .non h) := conseq pe_non fun _ _ _ ⟨_, _, _, _, rh, z⟩ => z.here rh .non'
theorem s_str {i : Str} {j : Nat} : PE X (.Constant (.str i) j pos) (tE (gx X cl) Wx fun _ h => .ok (.str i) h) := conseq pe_str fun _ _ _ ⟨_, _, _, _, rh, z⟩ => z.here rh .str'
variable {a b : Expr} {ea eb : En → Hw → Res W}
theorem t2 {r : R2} {sem : W → W → Hw → Res W} (hs : OpS (gx X cl) r sem) {σ : L2.St} {H : Hp} {Q : VK} (z : tE (gx X cl) Wx (fun ρ h => (ea ρ h).bind fun x h => (eb ρ h).bind fun y h => sem x y h) σ H Q) :
    tOp r (tE (gx X cl) Wx ea) (tE (gx X cl) Wx eb) σ H Q :=
  tR.bind z fun m ρ wa x h H1 rs rh ra z1 => tR.next rs rh z1 fun m2 wb y h2 H2 n rs2 rh2 rb z2 => hs m2 H2 h2 wa wb x y Q _ rh2 (ra.mono n) rb z2
theorem s_bin {op : Operator} {r : R2} {sem : W → W → Hw → Res W} (ho : OpR X (binaryOp op) r) (hs : OpS (gx X cl) r sem) (ha : PE X a (tE (gx X cl) Wx ea)) (hb : PE X b (tE (gx X cl) Wx eb)) :
    PE X (.BinOp a op b pos) (tE (gx X cl) Wx fun ρ h => (ea ρ h).bind fun x h => (eb ρ h).bind fun y h => sem x y h) := conseq (pe_op ho ha hb) fun σ H Q z => t2 hs z
theorem s_cmp {op : CmpOp} {r : R2} {sem : W → W → Hw → Res W} (ho : OpR X (compareOp op) r) (hs : OpS (gx X cl) r sem) (ha : PE X a (tE (gx X cl) Wx ea)) (hb : PE X b (tE (gx X cl) Wx eb)) (hm : behindInMarks op b = false) :
    PE X (.Compare a [op] [b] pos) (tE (gx X cl) Wx fun ρ h => (ea ρ h).bind fun x h => (eb ρ h).bind fun y h => sem x y h) := conseq (pe_cmpR ho ha hb hm) fun σ H Q z => t2 hs z
/-- as a test: the value is a bool -/
theorem tTestOf {sem : En → Hw → Res W} {t : TE} (hb : ∀ σ H (Q : VK), tE (gx X cl) Wx sem σ H Q → t σ H Q) (hv : ∀ ρ h w h', sem ρ h = .ok w h' → ∃ k, w = .bl k) {σ : L2.St} {H : Hp} {Q : Bool → Hp → Prop}
    (z : tT (gx X cl) Wx (fun ρ h => (sem ρ h).bind fun x h => match truth x h with | some k => .ok k h | none => .err) σ H Q) : tTest t σ H Q := by
  obtain ⟨m, ρ, h, rs, rh, z⟩ := z
  try dsimp only at z
  refine hb σ H _ ⟨m, ρ, h, rs, rh, ?_⟩
  cases e : sem ρ h with
  | ok w h' =>
    obtain ⟨k, rfl⟩ := hv ρ h w h' e
    rw [e] at z
    intro m' H' v n rh' r
    exact ⟨k, r.bl_of, z m' H' k n rh' rfl⟩
  | exc x h' =>
    rw [e] at z
    exact z
  | err =>
    rw [e] at z
    exact z
theorem s_isN {c : Expr} {j : Nat} {p : Pos} (ha : PE X a (tE (gx X cl) Wx ea)) :
    PE X (.Compare a [.Is] [.Constant .none j p] pos) (tE (gx X cl) Wx fun ρ h => (ea ρ h).bind fun x h => (Res.ok W.non h).bind fun y h => cmp .isN x y h) :=
  conseq (pe_cmp (pc_isN ha)) fun σ H Q z => tR.bind z fun m ρ wa x h H1 rs rh ra z1 => isNS rh ra z1
theorem s_notN {c : Expr} {j : Nat} {p : Pos} (ha : PE X a (tE (gx X cl) Wx ea)) :
    PE X (.Compare a [.IsNot] [.Constant .none j p] pos) (tE (gx X cl) Wx fun ρ h => (ea ρ h).bind fun x h => (Res.ok W.non h).bind fun y h => cmp .notN x y h) :=
  conseq (pe_cmp (pc_notN ha)) fun σ H Q z => tR.bind z fun m ρ wa x h H1 rs rh ra z1 => notNS rh ra z1
theorem s_neg (ha : PE X a (tE (gx X cl) Wx ea)) : PE X (.UnaryOp .USub a pos) (tE (gx X cl) Wx fun ρ h => (ea ρ h).bind fun x h => match x with | .int i => .ok (.int (-i)) h | _ => .err) :=
  conseq (pe_un un_neg ha) fun σ H Q z => tR.bind z fun m ρ wa x h H1 rs rh ra z1 => by
    cases wa with
    | int i =>
      rw [ra.int_of]
      exact ⟨i, rfl, RV.here (R := Rep (gx X cl).K) z1 rh .int'⟩
    | _ => exact z1.no
variable {rest : List Expr}
theorem s_one {op : BoolOp} (ha : PE X a (tE (gx X cl) Wx ea)) : PE X (.BoolOp op [a] pos) (tE (gx X cl) Wx ea) := pe_one ha
theorem s_and (ha : PE X a (tE (gx X cl) Wx ea)) (hb : PE X (.BoolOp .And (b :: rest) pos) (tE (gx X cl) Wx eb)) :
    PE X (.BoolOp .And (a :: b :: rest) pos) (tE (gx X cl) Wx fun ρ h => (ea ρ h).bind fun x h => match truth x h with | some true => eb ρ h | some false => .ok x h | none => .err) :=
  conseq (pe_andT ha hb) fun σ H Q z => tR.bind z fun m ρ wa x h H1 rs rh ra z1 => by
    try dsimp only at z1
    split at z1
    · rename_i e
      exact ⟨true, truS rh ra e, iteT (.here rs rh z1)⟩
    · rename_i e
      exact ⟨false, truS rh ra e, iteF (z1.here rh ra)⟩
    · exact z1.no
theorem s_or (ha : PE X a (tE (gx X cl) Wx ea)) (hb : PE X (.BoolOp .Or (b :: rest) pos) (tE (gx X cl) Wx eb)) :
    PE X (.BoolOp .Or (a :: b :: rest) pos) (tE (gx X cl) Wx fun ρ h => (ea ρ h).bind fun x h => match truth x h with | some true => .ok x h | some false => eb ρ h | none => .err) :=
  conseq (pe_orT ha hb) fun σ H Q z => tR.bind z fun m ρ wa x h H1 rs rh ra z1 => by
    try dsimp only at z1
    split at z1
    · rename_i e
      exact ⟨true, truS rh ra e, iteT (z1.here rh ra)⟩
    · rename_i e
      exact ⟨false, truS rh ra e, iteF (.here rs rh z1)⟩
    · exact z1.no
variable {tta ttb : En → Hw → Res Bool}
/-! ### tests -/
theorem s_tval (ha : PE X a (tE (gx X cl) Wx ea)) (he : ∀ whole, isTrue a X.env whole = (do let v ← whole; standAt a.pos; holding [v] (truthy v))) :
    PT X a (tT (gx X cl) Wx fun ρ h => (ea ρ h).bind fun x h => match truth x h with | some k => .ok k h | none => .err) :=
  conseqT (pt_truth ha he) fun σ H Q z => tR.bind z fun m ρ wa x h H1 rs rh ra z1 => by
    try dsimp only at z1
    split at z1
    · rename_i k e
      exact ⟨k, truS rh ra e, z1.here rh rfl⟩
    · exact z1.no
theorem s_tnot (ha : PT X a (tT (gx X cl) Wx tta)) : PT X (.UnaryOp .Not a pos) (tT (gx X cl) Wx fun ρ h => (tta ρ h).bind fun k h => .ok (!k) h) :=
  conseqT (pt_not ha) fun σ H Q z => tR.bind z fun m ρ wa x h H1 rs rh ra z1 => by
    rw [show x = wa from ra]
    exact z1.here rh rfl
theorem s_tand1 (ha : PT X a (tT (gx X cl) Wx tta)) : PW X (.BoolOp .And [a] pos) (tT (gx X cl) Wx tta) := pw_and1 ha
theorem s_tor1 (ha : PT X a (tT (gx X cl) Wx tta)) : PW X (.BoolOp .Or [a] pos) (tT (gx X cl) Wx tta) := pw_or1 ha
theorem s_tand (ha : PT X a (tT (gx X cl) Wx tta)) (hb : PW X (.BoolOp .And (b :: rest) pos) (tT (gx X cl) Wx ttb)) :
    PW X (.BoolOp .And (a :: b :: rest) pos) (tT (gx X cl) Wx fun ρ h => (tta ρ h).bind fun k h => if k = true then ttb ρ h else .ok false h) :=
  conseqW (pw_and ha hb) fun σ H Q z => tR.bind z fun m ρ wa x h H1 rs rh ra z1 => by
    rw [show x = wa from ra]
    cases wa with
    | true => exact iteT (.here rs rh z1)
    | false => exact iteF (RV.here (R := Same) z1 rh rfl)
theorem s_tor (ha : PT X a (tT (gx X cl) Wx tta)) (hb : PW X (.BoolOp .Or (b :: rest) pos) (tT (gx X cl) Wx ttb)) :
    PW X (.BoolOp .Or (a :: b :: rest) pos) (tT (gx X cl) Wx fun ρ h => (tta ρ h).bind fun k h => if k = true then .ok true h else ttb ρ h) :=
  conseqW (pw_or ha hb) fun σ H Q z => tR.bind z fun m ρ wa x h H1 rs rh ra z1 => by
    rw [show x = wa from ra]
    cases wa with
    | false => exact iteF (.here rs rh z1)
    | true => exact iteT (RV.here (R := Same) z1 rh rfl)
/-- not, as a value: through the value -/
theorem s_notV (ha : PE X a (tE (gx X cl) Wx ea)) : PE X (.UnaryOp .Not a pos) (tE (gx X cl) Wx fun ρ h => ((ea ρ h).bind fun x h => match truth x h with | some k => Res.ok k h | none => .err).bind fun k h => .ok (.bl (!k)) h) :=
  conseq (pe_notT ha) fun σ H Q ⟨m, ρ, h, rs, rh, z⟩ => by
    try dsimp only at z
    refine ⟨m, ρ, h, rs, rh, ?_⟩
    cases e : ea ρ h with
    | ok w h' =>
      rw [e] at z
      intro m' H' v n rh' r
      simp only [Res.bind_ok] at z
      cases e2 : truth w h' with
      | none => rw [e2] at z; exact (show False from z).elim
      | some k =>
        rw [e2] at z
        exact ⟨k, truS rh' r e2, z m' H' _ n rh' .bl'⟩
    | exc x h' => rw [e] at z; exact z
    | err => rw [e] at z; exact z
theorem s_ite {c : Expr} (hc : PT X c (tT (gx X cl) Wx tta)) (ha : PE X a (tE (gx X cl) Wx ea)) (hb : PE X b (tE (gx X cl) Wx eb)) :
    PE X (.IfExp c a b pos) (tE (gx X cl) Wx fun ρ h => (tta ρ h).bind fun k h => if k = true then ea ρ h else eb ρ h) :=
  conseq (pe_ifExp hc ha hb) fun σ H Q z => tR.bind z fun m ρ wa x h H1 rs rh ra z1 => by
    rw [show x = wa from ra]
    cases wa with
    | true => exact iteT (.here rs rh z1)
    | false => exact iteF (.here rs rh z1)

/-! ### displays, items, slices -/
variable {es : List Expr} {ees : En → Hw → Res (List W)}
theorem s_anil : PA X [] (tEs (gx X cl) Wx fun _ h => .ok [] h) := conseqA pa_nil fun _ _ _ ⟨_, _, _, _, rh, z⟩ => z.here rh .nil
theorem s_acons (ha : PE X a (tE (gx X cl) Wx ea)) (hr : PA X es (tEs (gx X cl) Wx ees)) (hs : starEach (a :: es) X.env = (false, eval a X.env) :: starEach es X.env) :
    PA X (a :: es) (tEs (gx X cl) Wx fun ρ h => (ea ρ h).bind fun x h => (ees ρ h).bind fun xs h => .ok (x :: xs) h) :=
  conseqA (pa_cons ha hr hs) fun σ H Q z => tR.bind z fun m ρ wa x h H1 rs rh ra z1 => tR.next rs rh z1 fun m2 ws vs h2 H2 n rs2 rh2 r z2 => z2.here rh2 (.cons (ra.mono n) r)
theorem s_tup {k : Nat} (h : PA X es (tEs (gx X cl) Wx ees)) : PE X (.Tuple es k pos) (tE (gx X cl) Wx fun ρ h => (ees ρ h).bind fun vs h => if vs.length ≤ lim then .ok (.tup vs) h else .err) :=
  conseq (pe_tup h) fun σ H Q z => tR.bind z fun m ρ ws vs h H1 rs rh r z1 => by
    try dsimp only at z1
    split at z1
    · rename_i hl
      exact ⟨by rw [← r.len, ← lim_eq]; exact hl, z1.newT rh r⟩
    · exact z1.no
theorem s_lst (h : PA X es (tEs (gx X cl) Wx ees)) : PE X (.List es pos) (tE (gx X cl) Wx fun ρ h => (ees ρ h).bind fun vs h => if vs.length ≤ lim then .ok (.ref h.length) (h ++ [.lst vs]) else .err) :=
  conseq (pe_lst h) fun σ H Q z => tR.bind z fun m ρ ws vs h H1 rs rh r z1 => by
    try dsimp only at z1
    split at z1
    · rename_i hl
      exact ⟨by rw [← r.len, ← lim_eq]; exact hl, z1.newL rh r⟩
    · exact z1.no
/-- a list display that only its place sees -/
theorem s_disp (h : PA X es (tEs (gx X cl) Wx ees)) : PE X (.List es pos) (tL (gx X cl) Wx fun ρ h => (ees ρ h).bind fun vs h => if vs.length ≤ lim then .ok (vs, [], false) h else .err) :=
  conseq (pe_lst h) fun σ H Q z => tR.bind z fun m ρ ws vs h H1 rs rh r z1 => by
    try dsimp only at z1
    split at z1
    · rename_i hl
      exact ⟨by rw [← r.len, ← lim_eq]; exact hl, fun p hp => z1 m _ _ (Nx.laid hp) (rh.laid hp) (src_new r rh hp)⟩
    · exact z1.no
theorem s_idx (ha : PE X a (tE (gx X cl) Wx ea)) (hb : PE X b (tE (gx X cl) Wx eb)) (hp : PlainIx b) : PE X (.Subscript a b pos) (tE (gx X cl) Wx fun ρ h => (ea ρ h).bind fun x h => (eb ρ h).bind fun y h => item x y h) :=
  conseq (pe_ix ix_item ha hb hp) fun σ H Q z => t2 itemS z
variable {lo hi : Option Expr} {el eh : En → Hw → Res (Option Int)}
theorem s_pno : PO X none (tP (gx X cl) Wx fun _ h => .ok none h) := conseqO po_none fun _ _ _ ⟨_, _, _, _, rh, z⟩ => z.here rh rfl
theorem s_pat (ha : PE X a (tE (gx X cl) Wx ea)) : PO X (some a) (tP (gx X cl) Wx fun ρ h => (ea ρ h).bind fun x h => match x with | .int i => .ok (some i) h | _ => .err) :=
  conseqO (po_some ha) fun σ H Q z => tR.bind z fun m ρ wa x h H1 rs rh ra z1 => by
    cases wa with
    | int i => exact ⟨i, ra.int_of, RV.here (R := Same) z1 rh rfl⟩
    | _ => exact z1.no
theorem s_slc {p2 : Pos} (ha : PE X a (tE (gx X cl) Wx ea)) (hl : PO X lo (tP (gx X cl) Wx el)) (hh : PO X hi (tP (gx X cl) Wx eh)) :
    PE X (.Subscript a (.Slice lo hi none p2) pos) (tE (gx X cl) Wx fun ρ h => (ea ρ h).bind fun x h => (el ρ h).bind fun l h => (eh ρ h).bind fun u h => slice x l u h) :=
  conseq (pe_slice sl_slice ha hl hh) fun σ H Q z => tR.bind z fun m ρ wa x h H1 rs rh ra z1 => tR.next rs rh z1 fun m2 l1 l2 h2 H2 n rs2 rh2 rl z2 => tR.next rs2 rh2 z2 fun m3 u1 u2 h3 H3 n3 rs3 rh3 ru z3 => by
    rw [show l2 = l1 from rl, show u2 = u1 from ru]
    exact sliceS rh3 ((ra.mono n).mono n3) z3

/-! ### the items of a value -/
theorem s_of (ha : PE X a (tE (gx X cl) Wx ea)) : PE X a (tL (gx X cl) Wx fun ρ h => (ea ρ h).bind fun x h => match seqOf h x with | some xs => .ok (xs, guOf x xs, isTup x) h | none => .err) :=
  conseq ha fun σ H Q z => tR.bind z fun m ρ wa x h H1 rs rh ra z1 => by
    try dsimp only at z1
    split at z1
    · rename_i xs e
      exact z1.here rh (src_val rh ra e)
    · exact z1.no

/-! ### calls of built-in functions -/
variable {x : Str} {p : Pos} {id T : String} {r : List V → Hp → VK → Prop} {e : Expr}
theorem s_biB {sem : List W → Hw → Res W} (hc : CallR X (.builtin id) r) (hs : CallS (gx X cl) r sem) (hg : Gl X x) (hm : X.mg x = none) (hv : bootBuiltins x = some (.builtin id)) (ha : PA X (e :: es) (tEs (gx X cl) Wx ees)) (hn : x ≠ "__name__") (hdb : (x == ("__debug__" : Str)) = false)
    (he : starEach (e :: es) X.env = (false, eval e X.env) :: starEach es X.env) (hpl : (backTo pos (starEach es X.env)).any (·.1) = false) :
    PE X (.Call (.Name x p) (e :: es) [] pos) (tE (gx X cl) Wx fun ρ h => (ees ρ h).bind fun vs h => sem vs h) :=
  conseq (pe_callB hc hg hm hv ha hn hdb he hpl) fun σ H Q z => tR.bind z fun m ρ ws vs h H1 rs rh rr z1 => hs m H1 h ws vs Q _ rh rr z1
theorem s_biT {sem : List W → Hw → Res W} (hc : CallR X (.type T) r) (hs : CallS (gx X cl) r sem) (hg : Gl X x) (hm : X.mg x = none) (hv : bootBuiltins x = some (.type T)) (ha : PA X (e :: es) (tEs (gx X cl) Wx ees)) (hn : x ≠ "__name__") (hdb : (x == ("__debug__" : Str)) = false)
    (he : starEach (e :: es) X.env = (false, eval e X.env) :: starEach es X.env) (hpl : (backTo pos (starEach es X.env)).any (·.1) = false) :
    PE X (.Call (.Name x p) (e :: es) [] pos) (tE (gx X cl) Wx fun ρ h => (ees ρ h).bind fun vs h => sem vs h) :=
  conseq (pe_callTy hc hg hm hv ha hn hdb he hpl) fun σ H Q z => tR.bind z fun m ρ ws vs h H1 rs rh rr z1 => hs m H1 h ws vs Q _ rh rr z1
theorem s_biM {sem : List W → Hw → Res W} (hc : CallR X (.builtin id) r) (hs : CallS (gx X cl) r sem) (hg : Gl X x) (hm : X.mg x = some (.builtin id)) (ha : PA X (e :: es) (tEs (gx X cl) Wx ees)) (hdb : (x == ("__debug__" : Str)) = false)
    (he : starEach (e :: es) X.env = (false, eval e X.env) :: starEach es X.env) (hpl : (backTo pos (starEach es X.env)).any (·.1) = false) :
    PE X (.Call (.Name x p) (e :: es) [] pos) (tE (gx X cl) Wx fun ρ h => (ees ρ h).bind fun vs h => sem vs h) :=
  conseq (pe_callBfun hc hg hm ha hdb he hpl) fun σ H Q z => tR.bind z fun m ρ ws vs h H1 rs rh rr z1 => hs m H1 h ws vs Q _ rh rr z1
/-- of one sequence -/
theorem s_one1 {el : En → Hw → Res (List W × Gu × Bool)} (ha : PE X e (tL (gx X cl) Wx el)) (hs : starEach [e] X.env = [(false, eval e X.env)]) : PA X [e] (tCons (tL (gx X cl) Wx el) tNil) := pa_cons ha pa_nil hs
theorem s_blB {el : En → Hw → Res (List W × Gu × Bool)} {sem : List W → Hw → Res W} (hc : CallR X (.builtin id) r) (hs : LcS (gx X cl) r sem) (hg : Gl X x) (hm : X.mg x = none) (hv : bootBuiltins x = some (.builtin id)) (ha : PE X e (tL (gx X cl) Wx el)) (hn : x ≠ "__name__") (hdb : (x == ("__debug__" : Str)) = false)
    (he : starEach [e] X.env = [(false, eval e X.env)]) : PE X (.Call (.Name x p) [e] [] pos) (tE (gx X cl) Wx fun ρ h => (el ρ h).bind fun q h => sem q.1 h) :=
  conseq (pe_callB hc hg hm hv (s_one1 ha he) hn hdb he rfl) fun σ H Q z => tR.bind z fun m ρ q v h H1 rs rh rr z1 => lcS_at hs rh rr z1
theorem s_blT {el : En → Hw → Res (List W × Gu × Bool)} {sem : List W → Hw → Res W} (hc : CallR X (.type T) r) (hs : LcS (gx X cl) r sem) (hg : Gl X x) (hm : X.mg x = none) (hv : bootBuiltins x = some (.type T)) (ha : PE X e (tL (gx X cl) Wx el)) (hn : x ≠ "__name__") (hdb : (x == ("__debug__" : Str)) = false)
    (he : starEach [e] X.env = [(false, eval e X.env)]) : PE X (.Call (.Name x p) [e] [] pos) (tE (gx X cl) Wx fun ρ h => (el ρ h).bind fun q h => sem q.1 h) :=
  conseq (pe_callTy hc hg hm hv (s_one1 ha he) hn hdb he rfl) fun σ H Q z => tR.bind z fun m ρ q v h H1 rs rh rr z1 => lcS_at hs rh rr z1
/-- isinstance(e, T) -/
theorem s_isi {t : Ty} {y : Str} {p2 : Pos} (hg : Gl X x) (hx : x = "isinstance") (hm : X.mg x = none) (hg2 : Gl X y) (hm2 : X.mg y = none) (hv2 : bootBuiltins y = some (.type t.nm)) (hn2 : y ≠ "__name__") (hd2 : (y == ("__debug__" : Str)) = false) (ha : PE X e (tE (gx X cl) Wx ea)) (hs : starEach [e, .Name y p2] X.env = [(false, eval e X.env), (false, eval (.Name y p2) X.env)]) :
    PE X (.Call (.Name x p) [e, .Name y p2] [] pos) (tE (gx X cl) Wx fun ρ h => ((ea ρ h).bind fun v h => (Res.ok [] h).bind fun vs h => .ok (v :: vs) h).bind fun vs h => bi (.isI t) vs h) := by
  subst hx
  refine conseq (pe_callB call_isA hg hm (by decide +kernel) (pa_cons ha (pa_cons (pe_bltn (v := .ty t.nm) hg2 hm2 hv2 rfl hn2 hd2) pa_nil) hs) (by decide) (by decide) hs rfl) fun σ H Q ⟨m, ρ, h, rs, rh, z⟩ => ?_
  try dsimp only at z
  refine ⟨m, ρ, h, rs, rh, ?_⟩
  cases e1 : ea ρ h with
  | ok w h' =>
    rw [e1] at z
    intro m' H' v n rh' rr
    have z : RV (gx X cl) (Rep (gx X cl).K) m H (match isTy w t h' with | some k => .ok (.bl k) h' | none => .err) Q _ := z
    show rIsA X.K [v, .ty t.nm] H' Q
    split at z
    · rename_i k hk
      obtain ⟨T, h1, h2⟩ := isTyS rh' rr hk
      exact ⟨v, _, T, k, rfl, h1, h2, z m' H' _ n rh' .bl'⟩
    · exact z.no
  | exc x h' => rw [e1] at z; exact z
  | err => rw [e1] at z; exact z
/-- a method of a list -/
theorem s_mt {o : Expr} {f : Mt} {name : Str} {apos : Pos} {eo : En → Hw → Res W} {rm : V → List V → Hp → VK → Prop} (pa : PlainAttrs "list") (slot : Slot "list" name id) (hty : typeOf (.builtin id) = pure (.type "method_descriptor")) (hm : MtR X id rm) (hs : MtS (gx X cl) rm f)
    (ho : PE X o (tE (gx X cl) Wx eo)) (ha : PA X (e :: es) (tEs (gx X cl) Wx ees))
    (hbase : attributeBase o name X.env (eval o X.env) = eval o X.env)
    (hfew : ((backTo pos (starEach (e :: es) X.env)).all (fun x => !x.1) && (backToKw pos (keywordEach [] X.env)).all (fun x => x.1.isSome)
      && decide ((e :: es).length + ([] : List Keyword).length + (if ([] : List Keyword).isEmpty then 0 else 1) < 30)) = true)
    (hline : (apos.endLine == pos.line) = true) (hst : starEach (e :: es) X.env = (false, eval e X.env) :: starEach es X.env) (hpl : (backTo pos (starEach es X.env)).any (·.1) = false) :
    PE X (.Call (.Attribute o name apos) (e :: es) [] pos) (tE (gx X cl) Wx fun ρ h => (eo ρ h).bind fun x h => match x with
      | .ref n => (match h[n]? with | some (.lst _) => (ees ρ h).bind fun vs h => mt f x vs h | _ => .err)
      | _ => .err) :=
  conseq (pe_bm pa slot hty hm ho ha hbase hfew hline hst hpl) fun σ H Q z => tR.bind z fun m ρ w v h H1 rs rh rr z1 => by
    try dsimp only at z1
    split at z1
    · rename_i k
      split at z1
      · rename_i xs hx
        obtain ⟨a, q1, rfl⟩ := rr.ref_of
        obtain ⟨vs, f, _⟩ := rh.lst hx q1
        exact ⟨.inl ⟨rfl, vs, .of f⟩, tR.next rs rh z1 fun m2 ws b h2 H2 n rs2 rh2 r2 z2 => hs m2 H2 h2 _ _ ws b Q _ rh2 (rr.mono n) r2 z2⟩
      · exact z1.no
    · exact z1.no
/-- a method without arguments -/
theorem s_mt0 {o : Expr} {f : Mt} {name : Str} {apos : Pos} {eo : En → Hw → Res W} {rm : V → List V → Hp → VK → Prop} (pa : PlainAttrs "list") (slot : Slot "list" name id) (hty : typeOf (.builtin id) = pure (.type "method_descriptor")) (hm : MtR X id rm) (hs : MtS (gx X cl) rm f)
    (ho : PE X o (tE (gx X cl) Wx eo)) (hbase : attributeBase o name X.env (eval o X.env) = eval o X.env) (hline : (apos.endLine == pos.line) = true) :
    PE X (.Call (.Attribute o name apos) [] [] pos) (tE (gx X cl) Wx fun ρ h => (eo ρ h).bind fun x h => match x with
      | .ref n => (match h[n]? with | some (.lst _) => mt f x [] h | _ => .err)
      | _ => .err) :=
  conseq (pe_bm0 pa slot hty hm ho hbase hline) fun σ H Q z => tR.bind z fun m ρ w v h H1 rs rh rr z1 => by
    try dsimp only at z1
    split at z1
    · rename_i k
      split at z1
      · rename_i xs hx
        obtain ⟨a, q1, rfl⟩ := rr.ref_of
        obtain ⟨vs, f, _⟩ := rh.lst hx q1
        exact ⟨.inl ⟨rfl, vs, .of f⟩, hs m H1 h _ _ [] [] Q _ rh rr .nil z1⟩
      · exact z1.no
    · exact z1.no
theorem rep_rg {G : GX} {H : Hp} {m : List Addr} (a b : Int) : RepL G.K H m (rng a (b - a).toNat) (rgV a b) := by
  have e1 : rng a (b - a).toNat = ((List.range (b - a).toNat).map fun (i : Nat) => a + (i : Int)).map W.int := by rw [List.map_map]; rfl
  have e2 : rgV a b = ((List.range (b - a).toNat).map fun (i : Nat) => a + (i : Int)).map V.int := by unfold rgV; rw [List.map_map]; rfl
  rw [e1, e2]
  exact repL_ints _
theorem s_lr1 {a : Expr} {ea : En → Hw → Res W} {p p2 pos2 : Pos} (hc : X.calm = true) (hg : Gl X "list") (hm : X.mg "list" = none) (hg2 : Gl X "range") (hm2 : X.mg "range" = none) (ha : PE X a (tE (gx X cl) Wx ea)) (hs : starEach [a] X.env = [(false, eval a X.env)]) :
    PE X (.Call (.Name "list" p) [.Call (.Name "range" p2) [a] [] pos2] [] pos) (tE (gx X cl) Wx fun ρ h => (ea ρ h).bind fun x h => match x with
      | .int j => if -(2 ^ 62) ≤ j ∧ j ≤ 16777216 then .ok (.ref h.length) (h ++ [.lst (rng 0 (j - 0).toNat)]) else .err
      | _ => .err) :=
  conseq (pe_listRg hc hg hm (prg_1 hg2 hm2 ha hs)) fun σ H Q z => tR.bind z fun m ρ w v h H1 rs rh r z1 => by
    try dsimp only at z1
    split at z1
    · rename_i j
      split at z1
      · rename_i hj
        rw [r.int_of]
        exact ⟨j, rfl, ⟨by omega, by omega, by omega, by omega, by omega⟩, z1.newL rh (rep_rg 0 j)⟩
      · exact z1.no
    · exact z1.no
theorem s_lr2 {a b : Expr} {ea eb : En → Hw → Res W} {p p2 pos2 : Pos} (hc : X.calm = true) (hg : Gl X "list") (hm : X.mg "list" = none) (hg2 : Gl X "range") (hm2 : X.mg "range" = none) (ha : PE X a (tE (gx X cl) Wx ea)) (hb : PE X b (tE (gx X cl) Wx eb)) (hs : starEach [a, b] X.env = [(false, eval a X.env), (false, eval b X.env)]) (hs2 : starEach [b] X.env = [(false, eval b X.env)]) :
    PE X (.Call (.Name "list" p) [.Call (.Name "range" p2) [a, b] [] pos2] [] pos) (tE (gx X cl) Wx fun ρ h => (ea ρ h).bind fun x h => (eb ρ h).bind fun y h => match x, y with
      | .int i, .int j => if -(2 ^ 62) ≤ i ∧ i < 2 ^ 62 ∧ -(2 ^ 62) ≤ j ∧ j < 2 ^ 62 ∧ (j - i).toNat ≤ lim then .ok (.ref h.length) (h ++ [.lst (rng i (j - i).toNat)]) else .err
      | _, _ => .err) :=
  conseq (pe_listRg hc hg hm (prg_2 hg2 hm2 ha hb (by rw [hs, hs2]) hs2 (by rw [hs2]; rfl))) fun σ H Q z => tR.bind z fun m ρ w v h H1 rs rh r z1 => tR.next rs rh z1 fun m2 w2 v2 h2 H2 n rs2 rh2 r2 z2 => by
    try dsimp only at z2
    split at z2
    · rename_i i j
      split at z2
      · rename_i hj
        rw [(r.mono n).int_of, r2.int_of]
        exact ⟨i, j, rfl, rfl, ⟨hj.1, hj.2.1, hj.2.2.1, hj.2.2.2.1, hj.2.2.2.2⟩, z2.newL rh2 (rep_rg i j)⟩
      · exact z2.no
    · exact z2.no
end
end Ev

set_option Elab.async false
set_option linter.all false
set_option maxRecDepth 100000
/-! Ev7: calls of one's own defs, what is walked, comprehensions, statements. -/
namespace Ev
open PySem PySem.Spec PyProof.Rows L2

/-! ### calls of one's own defs -/
def spF (G : GX) (φ : List W → Hw → Res W) (n : Nat) : Sp := fun vs H Q E =>
  vs.length = n ∧ ∃ m h ws, RelH G.K m H h ∧ RepL G.K H m ws vs ∧ RV G (Rep G.K) m H (φ ws h) Q E
structure FnAt (X : Cx) (cl : List Value) (k : Nat) (φ : List W → Hw → Res W) (x : Str) (n : Nat) : Prop where
  ex : ∃ f fd ps, X.mg x = some (.ref f) ∧ PySem.W.keepIn X.K (.ref f) = true ∧ Binds X.K fd ps [] ∧ FnOk X.prog X.w X.K X.mg X.base (L2.CX X.prog X.w) k f fd ps (spF (gx X cl) φ n)
  ln : ∀ ws h, ws.length ≠ n → φ ws h = .err
section
variable {X : Cx} {cl : List Value} {Wx : WX} {pos p : Pos} {e : Expr} {es : List Expr} {ees : En → Hw → Res (List W)}
theorem s_call {k n : Nat} {φ : List W → Hw → Res W} {x : Str} (F : FnAt X cl k φ x n) (hr : Room k X.A) (hg : Gl X x) (tk : Takes X Wx) (ha : PA X (e :: es) (tEs (gx X cl) Wx ees)) (hdb : (x == ("__debug__" : Str)) = false)
    (he : starEach (e :: es) X.env = (false, eval e X.env) :: starEach es X.env) (hpl : (backTo pos (starEach es X.env)).any (·.1) = false) :
    PE X (.Call (.Name x p) (e :: es) [] pos) (tE (gx X cl) Wx fun ρ h => (ees ρ h).bind fun vs h => φ vs h) := by
  obtain ⟨f, fd, ps, hm, hk, hb, hF⟩ := F.ex
  refine conseq (pe_callS (E := WE Wx) hF hr hg hm hk hb (fun σ => passAt tk σ) ha hdb he hpl) fun σ H Q z => tR.bind z fun m ρ ws vs h H1 rs rh r z1 => ?_
  refine ⟨?_, m, h, ws, rh, r, z1⟩
  rw [← r.len]
  by_cases hl : ws.length = n
  · exact hl
  · rw [F.ln ws h hl] at z1
    exact z1.no

/-! ### what is walked -/
def ItOk (G : GX) (m0 : List Addr) (H0 : Hp) (J : It) (q : List W × Gu) : Prop := ∀ (i : Nat) (m : List Addr) (H : Hp) (h : Hw), Nx m0 H0 m H → RelH G.K m H h → guOk q.2 h →
  (∀ w, q.1[i]? = some w → J.go i H ∧ ∀ x H', J.yld i H x H' → Nx m H m H' ∧ RelH G.K m H' h ∧ Rep G.K H' m w x) ∧ (q.1.length ≤ i → J.stop i H)
def RI (G : GX) : Hp → List Addr → List W × Gu → It → Prop := fun H m q J => ItOk G m H J q
abbrev tI (G : GX) (Wx : WX) (ev : En → Hw → Res (List W × Gu)) : TI := tR G Wx (RI G) ev
theorem conseqI {tg e : Expr} {t t' : TI} (p : PI X tg e t) (h : ∀ σ H Q, t' σ H Q → t σ H Q) : PI X tg e t' := ⟨fun pins s σ H Q I z => p.run pins s σ H Q I (h σ H Q z)⟩
theorem PI.or {tg e : Expr} {t t' : TI} (p : PI X tg e t) (q : PI X tg e t') : PI X tg e (fun σ H Q => t σ H Q ∨ t' σ H Q) := ⟨fun pins s σ H Q I z => z.elim (p.run pins s σ H Q I) (q.run pins s σ H Q I)⟩
section
variable {G : GX} {m0 : List Addr} {H0 : Hp} {q : List W × Gu × Bool} {a : Addr}
/-- a list where it stands, at every later state -/
def AtL (G : GX) (m0 : List Addr) (H0 : Hp) (q : List W × Gu × Bool) (a : Addr) : Prop := ∀ m H h, Nx m0 H0 m H → RelH G.K m H h → guOk q.2.1 h → ∃ vs, SqL G.K H a vs ∧ RepL G.K H m q.1 vs
def AtT (G : GX) (m0 : List Addr) (H0 : Hp) (q : List W × Gu × Bool) (a : Addr) : Prop := ∀ m H h, Nx m0 H0 m H → RelH G.K m H h → ∃ vs, SqT G.K H a vs ∧ RepL G.K H m q.1 vs
theorem src_at {v : V} (s : Src G.K H0 m0 q v) : ∃ a, v = .ref a ∧ ((q.2.2 = true ∧ AtT G m0 H0 q a) ∨ (q.2.2 = false ∧ AtL G m0 H0 q a)) := by
  obtain ⟨a, vs, e, r, s⟩ := s
  refine ⟨a, e, ?_⟩
  rcases s with ⟨s, k⟩ | ⟨k, s⟩
  · exact .inl ⟨k, fun m H h n rh => ⟨vs, (s.mono n).sq, r.mono n⟩⟩
  · refine .inr ⟨k, fun m H h n rh g => ?_⟩
    rcases s with s | s | ⟨i, e1, s, e2⟩
    · exact ⟨vs, (s.mono n).sq, r.mono n⟩
    · exact ⟨vs, .of (s.mono n).1, r.mono n⟩
    · have hl : h[i]? = some (.lst q.1) := g (i, q.1) (by rw [e2]; exact List.mem_cons_self)
      obtain ⟨vs', f, r'⟩ := rh.lst hl (n.get e1)
      exact ⟨vs', .of f, r'⟩
theorem itl_ok (h : AtL G m0 H0 q a) : ItOk G m0 H0 (Itl G.K a) (q.1, q.2.1) := fun i m H hw n rh g => by
  obtain ⟨vs, s, r⟩ := h m H hw n rh g
  refine ⟨fun w hw => ?_, fun hl => ⟨vs, s, by rw [← r.len]; exact hl⟩⟩
  obtain ⟨v, hv, rv⟩ := r.get hw
  refine ⟨⟨vs, v, s, hv⟩, fun x H' y => ?_⟩
  obtain ⟨rfl, y⟩ := y
  have e : some x = some v := (y vs s).symm.trans hv
  cases e
  exact ⟨.refl, rh, rv⟩
theorem itt_ok (h : AtT G m0 H0 q a) : ItOk G m0 H0 (Itt G.K a) (q.1, q.2.1) := fun i m H hw n rh g => by
  obtain ⟨vs, s, r⟩ := h m H hw n rh
  refine ⟨fun w hw => ?_, fun hl => ⟨vs, s, by rw [← r.len]; exact hl⟩⟩
  obtain ⟨v, hv, rv⟩ := r.get hw
  refine ⟨⟨vs, v, s, hv⟩, fun x H' y => ?_⟩
  obtain ⟨rfl, y⟩ := y
  have e : some x = some v := (y vs s).symm.trans hv
  cases e
  exact ⟨.refl, rh, rv⟩
theorem rng_get {lo : Int} {n i : Nat} {w : W} (h : (rng lo n)[i]? = some w) : i < n ∧ w = .int (lo + i) := by
  unfold rng at h
  rw [List.getElem?_map] at h
  cases e : (List.range n)[i]? with
  | none => rw [e] at h; cases h
  | some j =>
    rw [e] at h; cases h
    obtain ⟨h1, h2⟩ := List.getElem?_eq_some_iff.mp e
    rw [List.getElem_range] at h2
    subst h2
    exact ⟨by simpa using h1, rfl⟩
theorem rng_len (lo : Int) (n : Nat) : (rng lo n).length = n := by unfold rng; simp
theorem itr_ok {lo : Int} {n : Nat} : ItOk G m0 H0 (Itr lo n) (rng lo n, []) := fun i m H hw nx rh g => by
  refine ⟨fun w hw => ?_, fun hl => ?_⟩
  · obtain ⟨h1, rfl⟩ := rng_get hw
    refine ⟨h1, fun x H' y => ?_⟩
    obtain ⟨rfl, rfl⟩ := y
    exact ⟨.refl, rh, .int'⟩
  · rw [rng_len] at hl; exact hl
theorem zip_get {xs ys : List W} {i : Nat} {w : W} (h : ((xs.zip ys).map fun z => W.tup [z.1, z.2])[i]? = some w) : ∃ x y, xs[i]? = some x ∧ ys[i]? = some y ∧ w = .tup [x, y] := by
  rw [List.getElem?_map] at h
  cases e : (xs.zip ys)[i]? with
  | none => rw [e] at h; cases h
  | some z =>
    rw [e] at h; cases h
    obtain ⟨x, y⟩ := z
    rw [List.getElem?_zip_eq_some] at e
    exact ⟨x, y, e.1, e.2, rfl⟩
theorem pair_ok {m : List Addr} {H : Hp} {hw : Hw} {T : Addr} {x y : W} {v u : V} (rh : RelH G.K m H hw) (nT : H T = none) (r1 : Rep G.K H m x v) (r2 : Rep G.K H m y u) :
    Nx m H m (upd H T (.tup [v, u])) ∧ RelH G.K m (upd H T (.tup [v, u])) hw ∧ Rep G.K (upd H T (.tup [v, u])) m (.tup [x, y]) (.ref T) :=
  ⟨Nx.laid nT, rh.laid nT, .tup' (.inl ⟨.inl upd_same, rh.free nT⟩) (.cons (r1.mono (Nx.laid nT)) (.cons (r2.mono (Nx.laid nT)) .nil))⟩
theorem itz_ok {q2 : List W × Gu × Bool} {b : Addr} (h1 : AtL G m0 H0 q a) (h2 : AtL G m0 H0 q2 b) : ItOk G m0 H0 (Itz G.K a b) ((q.1.zip q2.1).map fun z => .tup [z.1, z.2], q.2.1 ++ q2.2.1) := fun i m H hw n rh g => by
  obtain ⟨vs, s, r⟩ := h1 m H hw n rh fun p hp => g p (List.mem_append_left _ hp)
  obtain ⟨us, s2, r2⟩ := h2 m H hw n rh fun p hp => g p (List.mem_append_right _ hp)
  refine ⟨fun w hw => ?_, fun hl => ⟨vs, us, s, s2, ?_⟩⟩
  · obtain ⟨x, y, e1, e2, rfl⟩ := zip_get hw
    obtain ⟨v, hv, rv⟩ := r.get e1
    obtain ⟨u, hu, ru⟩ := r2.get e2
    refine ⟨⟨vs, us, v, u, s, s2, hv, hu⟩, fun x' H' y' => ?_⟩
    obtain ⟨T, v', u', rfl, nT, rfl, f1, f2⟩ := y'
    cases (f1 vs s).symm.trans hv
    cases (f2 us s2).symm.trans hu
    exact pair_ok rh nT rv ru
  · rw [← r.len, ← r2.len]
    simp only [List.length_map, List.length_zip] at hl
    omega
theorem itzT_ok {q2 : List W × Gu × Bool} {b : Addr} (h1 : AtT G m0 H0 q a) (h2 : AtT G m0 H0 q2 b) : ItOk G m0 H0 (RZ.ItzT G.K a b) ((q.1.zip q2.1).map fun z => .tup [z.1, z.2], q.2.1 ++ q2.2.1) := fun i m H hw n rh g => by
  obtain ⟨vs, s, r⟩ := h1 m H hw n rh
  obtain ⟨us, s2, r2⟩ := h2 m H hw n rh
  refine ⟨fun w hw => ?_, fun hl => ⟨vs, us, s, s2, ?_⟩⟩
  · obtain ⟨x, y, e1, e2, rfl⟩ := zip_get hw
    obtain ⟨v, hv, rv⟩ := r.get e1
    obtain ⟨u, hu, ru⟩ := r2.get e2
    refine ⟨⟨vs, us, v, u, s, s2, hv, hu⟩, fun x' H' y' => ?_⟩
    obtain ⟨T, v', u', rfl, nT, rfl, f1, f2⟩ := y'
    cases (f1 vs s).symm.trans hv
    cases (f2 us s2).symm.trans hu
    exact pair_ok rh nT rv ru
  · rw [← r.len, ← r2.len]
    simp only [List.length_map, List.length_zip] at hl
    omega
theorem enum_get {xs : List W} {i : Nat} {w : W} (h : (((List.range xs.length).zip xs).map fun z => W.tup [.int (z.1 : Nat), z.2])[i]? = some w) : ∃ x, xs[i]? = some x ∧ w = .tup [.int (i : Nat), x] := by
  rw [List.getElem?_map] at h
  cases e : ((List.range xs.length).zip xs)[i]? with
  | none => rw [e] at h; cases h
  | some z =>
    rw [e] at h; cases h
    obtain ⟨j, y⟩ := z
    rw [List.getElem?_zip_eq_some] at e
    obtain ⟨e1, e2⟩ := e
    obtain ⟨_, e3⟩ := List.getElem?_eq_some_iff.mp e1
    rw [List.getElem_range] at e3
    subst e3
    exact ⟨y, e2, rfl⟩
theorem ite_ok (h : AtL G m0 H0 q a) : ItOk G m0 H0 (Ite G.K a) (((List.range q.1.length).zip q.1).map fun z => .tup [.int (z.1 : Nat), z.2], q.2.1) := fun i m H hw n rh g => by
  obtain ⟨vs, s, r⟩ := h m H hw n rh g
  refine ⟨fun w hw => ?_, fun hl => ⟨vs, s, ?_⟩⟩
  · obtain ⟨x, e1, rfl⟩ := enum_get hw
    obtain ⟨v, hv, rv⟩ := r.get e1
    refine ⟨⟨vs, v, s, hv⟩, fun x' H' y' => ?_⟩
    obtain ⟨T, v', rfl, nT, rfl, f1⟩ := y'
    cases (f1 vs s).symm.trans hv
    exact pair_ok rh nT .int' rv
  · rw [← r.len]
    simp only [List.length_map, List.length_zip, List.length_range] at hl
    omega
end
variable {el el2 : En → Hw → Res (List W × Gu × Bool)} {tg e2 : Expr}
theorem s_iL (he : PE X e (tL (gx X cl) Wx el)) : PI X tg e (tI (gx X cl) Wx fun ρ h => (el ρ h).bind fun q h => .ok (q.1, q.2.1) h) :=
  conseqI (PI.or (pi_list he) (pi_tup he)) fun σ H R ⟨m, ρ, h, rs, rh, z⟩ => by
    try dsimp only at z
    cases e1 : el ρ h with
    | ok q h' =>
      rw [e1] at z
      cases hk : q.2.2 with
      | true =>
        refine .inr ⟨m, ρ, h, rs, rh, ?_⟩
        rw [e1]
        intro m' H' v n rh' s
        obtain ⟨a, rfl, ⟨_, at1⟩ | ⟨k, _⟩⟩ := src_at (G := gx X cl) s
        · obtain ⟨vs, sq, _⟩ := at1 m' H' h' .refl rh'
          exact ⟨a, rfl, ⟨vs, sq⟩, z m' H' _ n rh' (itt_ok at1)⟩
        · rw [hk] at k; cases k
      | false =>
        refine .inl ⟨m, ρ, h, rs, rh, ?_⟩
        rw [e1]
        intro m' H' v n rh' s
        obtain ⟨a, rfl, ⟨k, _⟩ | ⟨_, at1⟩⟩ := src_at (G := gx X cl) s
        · rw [hk] at k; cases k
        · obtain ⟨a', vs, e', r', _⟩ := id s
          cases e'
          refine ⟨a, rfl, ?_, z m' H' _ n rh' (itl_ok at1)⟩
          obtain ⟨a'', us, e'', _, sq⟩ := s.sq
          cases e''
          obtain ⟨_, _, e3, _, s3⟩ := s
          cases e3
          rcases s3 with ⟨_, k⟩ | ⟨_, s3 | s3 | ⟨i, _, s3, _⟩⟩
          · rw [hk] at k; cases k
          · exact ⟨_, s3.sq⟩
          · exact ⟨_, .of s3.1⟩
          · exact ⟨_, .of s3⟩
    | exc x h' =>
      rw [e1] at z
      refine .inl ⟨m, ρ, h, rs, rh, ?_⟩
      rw [e1]; exact z
    | err => rw [e1] at z; exact z.no
/-- a list that is listed as such -/
theorem src_lst {m : List Addr} {H : Hp} {q : List W × Gu × Bool} {v : V} (s : Src (gx X cl).K H m q v) (k : q.2.2 = false) : ∃ a vs, v = .ref a ∧ SqL X.K H a vs := by
  obtain ⟨a, vs, e, r, s3⟩ := s
  rcases s3 with ⟨_, k'⟩ | ⟨_, s3 | s3 | ⟨i, _, s3, _⟩⟩
  · rw [k] at k'; cases k'
  · exact ⟨a, vs, e, s3.sq⟩
  · exact ⟨a, vs, e, .of s3.1⟩
  · exact ⟨a, vs, e, .of s3⟩
theorem src_tup {m : List Addr} {H : Hp} {q : List W × Gu × Bool} {v : V} (s : Src (gx X cl).K H m q v) (k : q.2.2 = true) : ∃ a vs, v = .ref a ∧ SqT X.K H a vs := by
  obtain ⟨a, vs, e, r, s3⟩ := s
  rcases s3 with ⟨s3, _⟩ | ⟨k', _⟩
  · exact ⟨a, vs, e, s3.sq⟩
  · rw [k] at k'; cases k'
theorem at_of {m m' : List Addr} {H H' : Hp} {q : List W × Gu × Bool} {a : Addr} (n : Nx m H m' H') (h : AtL (gx X cl) m H q a) : AtL (gx X cl) m' H' q a := fun m2 H2 h2 n2 rh g => h m2 H2 h2 (n.trans n2) rh g
theorem atT_of {m m' : List Addr} {H H' : Hp} {q : List W × Gu × Bool} {a : Addr} (n : Nx m H m' H') (h : AtT (gx X cl) m H q a) : AtT (gx X cl) m' H' q a := fun m2 H2 h2 n2 rh => h m2 H2 h2 (n.trans n2) rh
theorem s_enum {elts : List Expr} {kk : Nat} {tpos : Pos} (hg : Gl X "enumerate") (hm : X.mg "enumerate" = none) (he : PE X e (tL (gx X cl) Wx el)) (hs : starEach [e] X.env = [(false, eval e X.env)]) :
    PI X (.Tuple elts kk tpos) (.Call (.Name "enumerate" p) [e] [] pos) (tI (gx X cl) Wx fun ρ h => (el ρ h).bind fun p h => if p.2.2 = false then .ok (((List.range p.1.length).zip p.1).map fun z => .tup [.int (z.1 : Nat), z.2], p.2.1) h else .err) :=
  conseqI (pi_enum hg hm (s_one1 he hs) hs) fun σ H R z => tR.bind z fun m ρ q v h H1 rs rh s z1 => by
    try dsimp only at z1
    split at z1
    · rename_i hk
      obtain ⟨a, rfl, ⟨k, _⟩ | ⟨_, at1⟩⟩ := src_at (G := gx X cl) s
      · rw [hk] at k; cases k
      · obtain ⟨a', vs, e', sq⟩ := src_lst s hk
        cases e'
        exact ⟨a, vs, rfl, sq, z1.here rh (ite_ok at1)⟩
    · exact z1.no
theorem s_zip {elts : List Expr} {kk : Nat} {tpos : Pos} (hg : Gl X "zip") (hm : X.mg "zip" = none) (he : PE X e (tL (gx X cl) Wx el)) (he2 : PE X e2 (tL (gx X cl) Wx el2))
    (hs : starEach [e, e2] X.env = (false, eval e X.env) :: starEach [e2] X.env) (hs2 : starEach [e2] X.env = [(false, eval e2 X.env)]) :
    PI X (.Tuple elts kk tpos) (.Call (.Name "zip" p) [e, e2] [] pos) (tI (gx X cl) Wx fun ρ h => (el ρ h).bind fun p h => (el2 ρ h).bind fun q h => if p.2.2 = q.2.2 then .ok ((p.1.zip q.1).map fun z => .tup [z.1, z.2], p.2.1 ++ q.2.1) h else .err) :=
  conseqI (RZ.pi_zipA hg hm (pa_cons he (s_one1 he2 hs2) hs) hs (by rw [hs2]; rfl)) fun σ H R z => tR.bind z fun m ρ q v h H1 rs rh s z1 => tR.next rs rh z1 fun m2 q2 v2 h2 H2 n rs2 rh2 s2 z2 => by
    try dsimp only at z2
    split at z2
    · rename_i hk
      obtain ⟨a, rfl, t1⟩ := src_at (G := gx X cl) s
      obtain ⟨b, rfl, t2⟩ := src_at (G := gx X cl) s2
      cases hq : q2.2.2 with
      | true =>
        rw [hq] at hk
        rcases t1 with ⟨_, at1⟩ | ⟨k, _⟩
        · rcases t2 with ⟨_, at2⟩ | ⟨k, _⟩
          · obtain ⟨vs, sq, _⟩ := at1 m2 H2 h2 n rh2
            obtain ⟨us, sq2, _⟩ := at2 m2 H2 h2 .refl rh2
            exact ⟨a, b, vs, us, rfl, .inr ⟨sq, sq2, z2.here rh2 (itzT_ok (atT_of n at1) at2)⟩⟩
          · rw [hq] at k; cases k
        · rw [hk] at k; cases k
      | false =>
        rw [hq] at hk
        rcases t1 with ⟨k, _⟩ | ⟨_, at1⟩
        · rw [hk] at k; cases k
        · rcases t2 with ⟨k, _⟩ | ⟨_, at2⟩
          · rw [hq] at k; cases k
          · obtain ⟨b', us, e', sq2⟩ := src_lst s2 hq
            cases e'
            -- the first list still stands: by its own record, or as it was
            have first : ∃ vs, SqL X.K H2 a vs := by
              obtain ⟨_, vs, e', r, s3⟩ := s
              cases e'
              rcases s3 with ⟨_, k'⟩ | ⟨_, s3 | s3 | ⟨i, e1, s3, _⟩⟩
              · rw [hk] at k'; cases k'
              · exact ⟨vs, (s3.mono n).sq⟩
              · exact ⟨vs, .of (s3.mono n).1⟩
              · obtain ⟨vs', f⟩ := rh2.hit (List.mem_of_getElem? (n.get e1))
                exact ⟨vs', .of f⟩
            obtain ⟨vs, sq⟩ := first
            exact ⟨a, b, vs, us, rfl, .inl ⟨sq, sq2, z2.here rh2 (itz_ok (at_of n at1) at2)⟩⟩
    · exact z2.no
variable {a b : Expr} {ea eb : En → Hw → Res W}
theorem s_rng1 (hg : Gl X "range") (hm : X.mg "range" = none) (ha : PE X a (tE (gx X cl) Wx ea)) (hs : starEach [a] X.env = [(false, eval a X.env)]) :
    PI X tg (.Call (.Name "range" p) [a] [] pos) (tI (gx X cl) Wx fun ρ h => (ea ρ h).bind fun x h => match x with
      | .int j => if -(2 ^ 62) ≤ j ∧ j < 2 ^ 62 then .ok (rng 0 j.toNat, []) h else .err
      | _ => .err) :=
  conseqI (pi_range1 hg hm (pa_cons ha pa_nil hs) hs) fun σ H R z => tR.bind z fun m ρ w v h H1 rs rh r z1 => by
    try dsimp only at z1
    split at z1
    · rename_i j
      split at z1
      · rename_i hj
        rw [r.int_of]
        exact ⟨j, rfl, hj.1, hj.2, z1.here rh itr_ok⟩
      · exact z1.no
    · exact z1.no
theorem s_rng2 (hg : Gl X "range") (hm : X.mg "range" = none) (ha : PE X a (tE (gx X cl) Wx ea)) (hb : PE X b (tE (gx X cl) Wx eb)) (hs : starEach [a, b] X.env = [(false, eval a X.env), (false, eval b X.env)]) (hs2 : starEach [b] X.env = [(false, eval b X.env)]) :
    PI X tg (.Call (.Name "range" p) [a, b] [] pos) (tI (gx X cl) Wx fun ρ h => (ea ρ h).bind fun x h => (eb ρ h).bind fun y h => match x, y with
      | .int i, .int j => if -(2 ^ 62) ≤ i ∧ i < 2 ^ 62 ∧ -(2 ^ 62) ≤ j ∧ j < 2 ^ 62 then .ok (rng i (j - i).toNat, []) h else .err
      | _, _ => .err) :=
  conseqI (pi_range2 hg hm (pa_cons ha (pa_cons hb pa_nil hs2) (by rw [hs, hs2])) hs hs2) fun σ H R z => tR.bind z fun m ρ w v h H1 rs rh r z1 => tR.next rs rh z1 fun m2 w2 v2 h2 H2 n rs2 rh2 r2 z2 => by
    try dsimp only at z2
    split at z2
    · rename_i i j
      split at z2
      · rename_i hj
        rw [(r.mono n).int_of, r2.int_of]
        exact ⟨i, j, rfl, hj, z2.here rh2 itr_ok⟩
      · exact z2.no
    · exact z2.no
end
end Ev

set_option Elab.async false
set_option linter.all false
set_option maxRecDepth 100000
/-! Ev8: targets, comprehensions, statements, defs. -/
namespace Ev
open PySem PySem.Spec PyProof.Rows L2

/-! ### targets -/
mutual
def gG (K : PySem.W.Frag) : IG → TG
  | .var i => gName i
  | .tup ts => gTup K ts.length (gGs K ts)
def gGs (K : PySem.W.Frag) : List IG → TGs
  | [] => gNil
  | t :: ts => gCons (gG K t) (gGs K ts)
end
mutual
def slots : IG → List Nat
  | .var i => [i]
  | .tup ts => slotss ts
def slotss : List IG → List Nat
  | [] => []
  | t :: ts => slots t ++ slotss ts
end
theorem wipe_set {σ : L2.St} {i : Nat} {x : Option V} : ∀ {vs : List Nat}, i ∈ vs → L2.wipe (σ.set i x) vs = L2.wipe σ vs
  | [], h => absurd h (by simp)
  | v :: vs, h => by
    show (L2.wipe (σ.set i x) vs).set v none = (L2.wipe σ vs).set v none
    by_cases hm : i ∈ vs
    · rw [wipe_set hm]
    · have hv : i = v := by
        rcases List.mem_cons.mp h with z | z
        · exact z
        · exact absurd z hm
      subst hv
      apply List.ext_getElem?
      intro j
      by_cases hj : i = j
      · subst hj
        by_cases hl : i < σ.length
        · rw [List.getElem?_set_self (by rw [wipe_length]; simpa using hl), List.getElem?_set_self (by rw [wipe_length]; exact hl)]
        · rw [List.getElem?_eq_none (by simp [wipe_length]; omega), List.getElem?_eq_none (by simp [wipe_length]; omega)]
      · rw [List.getElem?_set_ne hj, List.getElem?_set_ne hj]
        by_cases hjm : j ∈ vs
        · -- both are wiped at j
          have key : ∀ (τ : L2.St) (us : List Nat), j ∈ us → (L2.wipe τ us)[j]? = if j < τ.length then some none else none := by
            intro τ us
            induction us with
            | nil => intro h; simp at h
            | cons u us ih =>
              intro h
              show ((L2.wipe τ us).set u none)[j]? = _
              by_cases hu : u = j
              · subst hu
                by_cases hl : u < τ.length
                · rw [List.getElem?_set_self (by rw [wipe_length]; exact hl), if_pos hl]
                · rw [List.getElem?_eq_none (by simp [wipe_length]; omega), if_neg hl]
              · rw [List.getElem?_set_ne hu]
                exact ih ((List.mem_cons.mp h).resolve_left fun z => hu z.symm)
          rw [key _ _ hjm, key _ _ hjm]
          simp
        · rw [wipe_out hjm, wipe_out hjm, List.getElem?_set_ne hj]
theorem wipe_wipe (σ : L2.St) : ∀ vs : List Nat, L2.wipe (L2.wipe σ vs) vs = L2.wipe σ vs := fun vs => by
  apply List.ext_getElem?
  intro j
  by_cases hjm : j ∈ vs
  · have key : ∀ (τ : L2.St) (us : List Nat), j ∈ us → (L2.wipe τ us)[j]? = if j < τ.length then some none else none := by
      intro τ us
      induction us with
      | nil => intro h; simp at h
      | cons u us ih =>
        intro h
        show ((L2.wipe τ us).set u none)[j]? = _
        by_cases hu : u = j
        · subst hu
          by_cases hl : u < τ.length
          · rw [List.getElem?_set_self (by rw [wipe_length]; exact hl), if_pos hl]
          · rw [List.getElem?_eq_none (by simp [wipe_length]; omega), if_neg hl]
        · rw [List.getElem?_set_ne hu]
          exact ih ((List.mem_cons.mp h).resolve_left fun z => hu z.symm)
    rw [key _ _ hjm, key _ _ hjm, wipe_length]
  · rw [wipe_out hjm]
section
variable {G : GX} {m : List Addr} {H : Hp}
mutual
theorem gG_ok : ∀ (t : IG) {w : W} {v : V} {ρ ρ' : En} {σ : L2.St} {Q : L2.St → Hp → Prop}, RepS G.K H m ρ σ → Rep G.K H m w v → asg t w ρ = some ρ' →
    (∀ σ', RepS G.K H m ρ' σ' → (∀ vs, (∀ i ∈ slots t, i ∈ vs) → L2.wipe σ' vs = L2.wipe σ vs) → Q σ' H) → gG G.K t v σ H Q
  | .var i, w, v, ρ, ρ', σ, Q, rs, r, e, k => by
    unfold asg at e; cases e
    unfold gG
    exact k _ (rs.setS r i) fun vs hv => wipe_set (hv i (by unfold slots; simp))
  | .tup ts, w, v, ρ, ρ', σ, Q, rs, r, e, k => by
    cases w with
    | tup ws =>
      unfold asg at e
      split at e
      · rename_i hl
        obtain ⟨a, vs, rfl, s, q⟩ := r.tup_of
        unfold gG
        exact ⟨a, vs, rfl, s.sq, by rw [← q.len, hl], gGs_ok ts rs q hl e fun σ' rs' wi => k σ' rs' fun us hu => wi us (by unfold slots at hu; exact hu)⟩
      · cases e
    | _ => unfold asg at e; cases e
theorem gGs_ok : ∀ (ts : List IG) {ws : List W} {vs : List V} {ρ ρ' : En} {σ : L2.St} {Q : L2.St → Hp → Prop}, RepS G.K H m ρ σ → RepL G.K H m ws vs → ts.length = ws.length → asgs ts ws ρ = some ρ' →
    (∀ σ', RepS G.K H m ρ' σ' → (∀ vs, (∀ i ∈ slotss ts, i ∈ vs) → L2.wipe σ' vs = L2.wipe σ vs) → Q σ' H) → gGs G.K ts vs σ H Q
  | [], ws, vs, ρ, ρ', σ, Q, rs, r, hl, e, k => by
    have : ws = [] := List.eq_nil_of_length_eq_zero hl.symm
    subst this
    unfold RepL at r; subst r
    unfold asgs at e; cases e
    unfold gGs
    exact ⟨rfl, k σ rs fun _ _ => rfl⟩
  | t :: ts, [], vs, ρ, ρ', σ, Q, rs, r, hl, e, k => by simp at hl
  | t :: ts, w :: ws, vs, ρ, ρ', σ, Q, rs, r, hl, e, k => by
    obtain ⟨v, q, rfl, r1, r2⟩ := r.uncons
    unfold asgs at e
    split at e
    · rename_i ρ1 e1
      unfold gGs
      refine ⟨v, q, rfl, gG_ok t rs r1 e1 fun σ1 rs1 w1 => gGs_ok ts rs1 r2 (by simpa using hl) e fun σ2 rs2 w2 => k σ2 rs2 fun us hu => ?_⟩
      rw [w2 us fun i hi => hu i (by unfold slotss; exact List.mem_append_right _ hi)]
      exact w1 us fun i hi => hu i (by unfold slotss; exact List.mem_append_left _ hi)
    · cases e
end
end

/-! ### comprehensions -/
theorem guard_ok {α : Type} {g : Gu} {h : Hw} {r r' : Res α} (e : guard g h r = r') (hn : r' ≠ .err) : guOk g h ∧ r = r' := by
  unfold guard at e
  split at e
  · rename_i hg; exact ⟨hg, e⟩
  · exact absurd e.symm hn
section
variable {G : GX} {Wx : WX} {σ : L2.St} {H : Hp} {Q : VK}
abbrev noX : WX := fun _ _ _ _ => False
theorem tLc_of {α : Type} {R' : Hp → List Addr → α → V → Prop} {ei : En → Hw → Res (List W × Gu)} {et : En → Hw → Res Bool} {ee : En → Hw → Res W} {ig : IG} {own : List Nat} {kk : List W → Hw → Res α}
    (hsl : ∀ i ∈ slots ig, i ∈ own)
    (z : tR G Wx R' (fun ρ h => (ei ρ h).bind fun q h => (compL ig q.2 et ee own ρ q.1 h []).bind kk) σ H Q)
    (hk : ∀ m0 H0 m1 H1 h1 D ys vs, Nx m0 H0 m1 H1 → H0 D = none → RelH G.K m1 H1 h1 → Air H1 m1 D vs → RepL G.K H1 m1 ys vs → RV G R' m0 H0 (kk ys h1) Q (fun c d H' => Wx c d σ H') → Q (.ref D) H1) :
    tLc (tI G Wx ei) (gG G.K ig) (tT G noX et) (tE G noX ee) own σ H Q :=
  tR.bind z fun m0 ρ q J h0 H0 rs rh it z1 => fun D hD => by
    have ne : compL ig q.2 et ee own ρ q.1 h0 [] ≠ .err := fun e => by rw [e] at z1; exact z1.no
    generalize hfull : compL ig q.2 et ee own ρ q.1 h0 [] = full at z1 ne
    refine ⟨fun i mm H => ∃ m1 h1 accV accW, Nx m0 H0 m1 H ∧ RelH G.K m1 H h1 ∧ Air H m1 D accV ∧ RepL G.K H m1 accW accV ∧ mm = q.1.length - i ∧ i ≤ q.1.length ∧ compL ig q.2 et ee own ρ (q.1.drop i) h1 accW = full,
      ⟨q.1.length, m0, h0, [], [], Nx.airNew .refl hD, rh.laid hD, ⟨upd_same, rh.free hD⟩, .nil, by simp, Nat.zero_le _, by simpa using hfull⟩, ?_⟩
    rintro i mm H1 ⟨m1, h1, accV, accW, n1, rh1, air, ra, rfl, hi, hc⟩
    obtain hlt | heq := Nat.lt_or_eq_of_le hi
    · -- a turn
      have hd : q.1.drop i = q.1[i] :: q.1.drop (i + 1) := List.drop_eq_getElem_cons hlt
      rw [hd] at hc
      unfold compL at hc
      obtain ⟨gu, hc⟩ := guard_ok hc ne
      obtain ⟨go, yl⟩ := (it i m1 H1 h1 n1 rh1 gu).1 q.1[i] (List.getElem?_eq_getElem hlt)
      refine .inr ⟨go, fun H' => ∃ m1 h1 accV accW, Nx m0 H0 m1 H' ∧ RelH G.K m1 H' h1 ∧ Air H' m1 D accV ∧ RepL G.K H' m1 accW accV ∧ compL ig q.2 et ee own ρ (q.1.drop (i + 1)) h1 accW = full, fun H' ⟨m2, h2, av, aw, a1, a2, a3, a4, a5⟩ => ⟨q.1.length - (i + 1), by omega, m2, h2, av, aw, a1, a2, a3, a4, rfl, hlt, a5⟩, fun x H2 y => ?_⟩
      obtain ⟨n2, rh2, rx⟩ := yl x H2 y
      have n02 := n1.trans n2
      split at hc
      · exact absurd hc.symm ne
      · rename_i ρ' ea
        refine gG_ok (G := G) (m := m1) ig ((rs.mono n02).wipe own) rx ea fun σ2 rs2 wi => ⟨?_, ?_⟩
        · rw [wi own hsl, wipe_wipe]
        · refine ⟨m1, ρ', h1, rs2, rh2, ?_⟩
          split at hc
          · rename_i h3 et1
            rw [et1]
            intro m3 H3 b n3 rh3 e3
            rw [show b = true from e3]
            refine iteT ⟨m3, ρ', h3, rs2.mono n3, rh3, ?_⟩
            split at hc
            · rename_i yw h4 ee1
              rw [ee1]
              intro m4 H4 yv n4 rh4 ry
              split at hc
              · rename_i hl
                have n14 := (n2.trans n3).trans n4
                have air4 := air.mono n14
                refine ⟨accV, air4.1, by rw [← ra.len, ← lim_eq]; exact hl, m4, h4, accV ++ [yv], accW ++ [yw], (n1.trans n14).airNew hD, rh4.air air4.1 air4.2, ⟨upd_same, air4.2⟩, (RepL.air air4.1 ((ra.mono n14).append (.cons ry .nil))), hc⟩
              · exact absurd hc.symm ne
            · exact absurd hc.symm ne
          · rename_i h3 et1
            rw [et1]
            intro m3 H3 b n3 rh3 e3
            rw [show b = false from e3]
            have n13 := n2.trans n3
            exact iteF ⟨m3, h3, accV, accW, n1.trans n13, rh3, air.mono n13, ra.mono n13, hc⟩
          · exact absurd hc.symm ne
    · -- the end
      rw [heq, List.drop_length] at hc
      unfold compL at hc
      obtain ⟨gu, hc⟩ := guard_ok hc ne
      subst hc
      exact .inl ⟨(it i m1 H1 h1 n1 rh1 gu).2 (Nat.le_of_eq heq.symm), hk m0 H0 m1 H1 h1 D accW accV n1 hD rh1 air ra z1⟩
/-- as items -/
theorem tLc_items {ei : En → Hw → Res (List W × Gu)} {et : En → Hw → Res Bool} {ee : En → Hw → Res W} {ig : IG} {own : List Nat} (hsl : ∀ i ∈ slots ig, i ∈ own)
    (z : tL G Wx (fun ρ h => (ei ρ h).bind fun q h => (compL ig q.2 et ee own ρ q.1 h []).bind fun ys h => .ok (ys, [], false) h) σ H Q) :
    tLc (tI G Wx ei) (gG G.K ig) (tT G noX et) (tE G noX ee) own σ H Q :=
  tLc_of hsl z fun m0 H0 m1 H1 h1 D ys vs n hD rh air r z1 => z1 m1 H1 _ n rh ⟨D, vs, rfl, r, .inr ⟨rfl, .inr (.inl air)⟩⟩
/-- as a new list -/
theorem tLc_list {ei : En → Hw → Res (List W × Gu)} {et : En → Hw → Res Bool} {ee : En → Hw → Res W} {ig : IG} {own : List Nat} (hsl : ∀ i ∈ slots ig, i ∈ own)
    (z : tE G Wx (fun ρ h => ((ei ρ h).bind fun q h => (compL ig q.2 et ee own ρ q.1 h []).bind fun ys h => Res.ok (ys, ([] : Gu), false) h).bind fun q h => .ok (.ref h.length) (h ++ [.lst q.1])) σ H Q) :
    tLc (tI G Wx ei) (gG G.K ig) (tT G noX et) (tE G noX ee) own σ H Q := by
  have z' : tE G Wx (fun ρ h => (ei ρ h).bind fun q h => (compL ig q.2 et ee own ρ q.1 h []).bind fun ys h => .ok (.ref h.length) (h ++ [.lst ys])) σ H Q := by
    obtain ⟨m, ρ, h, rs, rh, z⟩ := z
    refine ⟨m, ρ, h, rs, rh, ?_⟩
    simp only [Res.bind_assoc, Res.bind_ok] at z
    exact z
  refine tLc_of hsl z' fun m0 H0 m1 H1 h1 D ys vs n hD rh air r z1 => ?_
  obtain ⟨rh2, ad⟩ := rh.adopt air.1 air.2 r
  refine z1 (m1 ++ [D]) H1 _ ⟨?_, n.fr, fun a ha hm => ?_⟩ rh2 (.ref' (by rw [← rh.len, List.getElem?_append_right (Nat.le_refl _)]; simp))
  · obtain ⟨t, rfl⟩ := n.pre
    exact ⟨t ++ [D], by rw [List.append_assoc]⟩
  · rcases List.mem_append.mp ha with ha | ha
    · exact n.new a ha hm
    · rw [List.mem_singleton.mp ha]; exact hD
end

/-! ### statements -/
section
variable (G : GX) (Wx : WX)
def FlOk (f : Fl) (ρ' : En) (m' : List Addr) (H' : Hp) (D : Ends) : Prop :=
  match f with
  | .next => ∀ σ', RepS G.K H' m' ρ' σ' → D.nx σ' H'
  | .brk => ∀ σ', RepS G.K H' m' ρ' σ' → D.bk σ' H'
  | .cont => ∀ σ', RepS G.K H' m' ρ' σ' → D.ct σ' H'
  | .ret w => ∀ v, Rep G.K H' m' w v → D.rt v H'
  | .rz e => ∀ σ' c d, RepS G.K H' m' ρ' σ' → RepX G H' m' e c d → Wx c d σ' H'
def RSt (m : List Addr) (H : Hp) (r : Rs) (D : Ends) : Prop :=
  match r with
  | .ok (f, ρ') h' => ∀ m' H', Nx m H m' H' → RelH G.K m' H' h' → FlOk G Wx f ρ' m' H' D
  | _ => False
def tS (ev : En → Hw → Rs) : TS := fun D σ H => ∃ m ρ h, RepS G.K H m ρ σ ∧ RelH G.K m H h ∧ RSt G Wx m H (ev ρ h) D
end
section
variable {G : GX} {Wx : WX} {m m1 : List Addr} {H H1 : Hp} {h : Hw} {D : Ends} {ρ : En} {σ : L2.St}
theorem RSt.down {r : Rs} (x : Nx m H m1 H1) (z : RSt G Wx m H r D) : RSt G Wx m1 H1 r D := by
  cases r with
  | ok a h' =>
    obtain ⟨f, ρ'⟩ := a
    exact fun m' H' n r => z m' H' (x.trans n) r
  | exc e h' => exact z
  | err => exact z
theorem RSt.here {f : Fl} {ρ' : En} (z : RSt G Wx m H (.ok (f, ρ') h) D) (rh : RelH G.K m H h) : FlOk G Wx f ρ' m H D := z m H .refl rh
/-- from a statement's result to that of its expression -/
theorem RSt.st {α β : Type} {R : Hp → List Addr → α → β → Prop} {r : Res α} {f : α → Hw → Rs} (rs : RepS G.K H m ρ σ) (z : RSt G Wx m H (r.st ρ f) D) :
    RV G R m H r (fun b H1 => ∃ m1 a h1, Nx m H m1 H1 ∧ RepS G.K H1 m1 ρ σ ∧ RelH G.K m1 H1 h1 ∧ R H1 m1 a b ∧ RSt G Wx m1 H1 (f a h1) D) (fun c d H' => Wx c d σ H') := by
  cases r with
  | ok a h' => exact fun m' H' b n rh q => ⟨m', a, h', n, rs.mono n, rh, q, RSt.down n z⟩
  | exc e h' => exact fun m' H' c d n rh q => z m' H' n rh σ c d (rs.mono n) q
  | err => exact z
/-- a statement that begins by an expression -/
theorem tS.st {α β : Type} {R : Hp → List Addr → α → β → Prop} {ev : En → Hw → Res α} {f : En → α → Hw → Rs} {Q : β → Hp → Prop} (z : tS G Wx (fun ρ h => (ev ρ h).st ρ (f ρ)) D σ H)
    (k : ∀ m1 ρ a b h1 H1, RepS G.K H1 m1 ρ σ → RelH G.K m1 H1 h1 → R H1 m1 a b → RSt G Wx m1 H1 (f ρ a h1) D → Q b H1) : tR G Wx R ev σ H Q := by
  obtain ⟨m, ρ, h, rs, rh, z⟩ := z
  exact ⟨m, ρ, h, rs, rh, (RSt.st rs z).mono fun b H1 ⟨m1, a, h1, n, rs1, rh1, q, z1⟩ => k m1 ρ a b h1 H1 rs1 rh1 q z1⟩
theorem RSt.go {α β : Type} {R : Hp → List Addr → α → β → Prop} {ev : En → Hw → Res α} {f : α → Hw → Rs} {Q : β → Hp → Prop} (rs : RepS G.K H m ρ σ) (rh : RelH G.K m H h) (z : RSt G Wx m H ((ev ρ h).st ρ f) D)
    (k : ∀ m1 a b h1 H1, Nx m H m1 H1 → RepS G.K H1 m1 ρ σ → RelH G.K m1 H1 h1 → R H1 m1 a b → RSt G Wx m1 H1 (f a h1) D → Q b H1) : tR G Wx R ev σ H Q :=
  ⟨m, ρ, h, rs, rh, (RSt.st rs z).mono fun b H1 ⟨m1, a, h1, n, rs1, rh1, q, z1⟩ => k m1 a b h1 H1 n rs1 rh1 q z1⟩
theorem tS.here {ev : En → Hw → Rs} (rs : RepS G.K H m ρ σ) (rh : RelH G.K m H h) (z : RSt G Wx m H (ev ρ h) D) : tS G Wx ev D σ H := ⟨m, ρ, h, rs, rh, z⟩
theorem RSt.no {C : Prop} (z : RSt G Wx m H .err D) : C := (show False from z).elim
end
section
variable {X : Cx} {cl : List Value} {Wx : WX} {pos : Pos} {e : Expr} {ee : En → Hw → Res W} {es es2 : En → Hw → Rs} {st : Stmt} {ss : List Stmt}
theorem ss_nil : PSs X [] (tS (gx X cl) Wx fun ρ h => .ok (.next, ρ) h) := conseqSs pss_nil fun D σ H ⟨m, ρ, h, rs, rh, z⟩ => RSt.here z rh σ rs
theorem ss_cons (h1 : PS X st (tS (gx X cl) Wx es)) (h2 : PSs X ss (tS (gx X cl) Wx es2)) : PSs X (st :: ss) (tS (gx X cl) Wx fun ρ h => match es ρ h with
    | .ok (.next, ρ) h => es2 ρ h
    | .ok (f, ρ) h => .ok (f, ρ) h
    | _ => .err) :=
  conseqSs (pss_cons h1 h2) fun D σ H ⟨m, ρ, h, rs, rh, z⟩ => by
    refine ⟨m, ρ, h, rs, rh, ?_⟩
    try dsimp only at z
    cases e1 : es ρ h with
    | ok a h' =>
      obtain ⟨f, ρ'⟩ := a
      rw [e1] at z
      intro m' H' n rh'
      cases f with
      | next => exact fun σ' rs' => .here rs' rh' (RSt.down n z)
      | brk => exact z m' H' n rh'
      | cont => exact z m' H' n rh'
      | ret w => exact z m' H' n rh'
      | rz e => exact z m' H' n rh'
    | exc x h' => rw [e1] at z; exact z
    | err => rw [e1] at z; exact z
theorem ss_pass : PS X (.Pass pos) (tS (gx X cl) Wx fun ρ h => .ok (.next, ρ) h) := conseqS ps_pass fun D σ H ⟨m, ρ, h, rs, rh, z⟩ => RSt.here z rh σ rs
theorem ss_brk : PS X (.Break pos) (tS (gx X cl) Wx fun ρ h => .ok (.brk, ρ) h) := conseqS ps_break fun D σ H ⟨m, ρ, h, rs, rh, z⟩ => RSt.here z rh σ rs
theorem ss_cont : PS X (.Continue pos) (tS (gx X cl) Wx fun ρ h => .ok (.cont, ρ) h) := conseqS ps_continue fun D σ H ⟨m, ρ, h, rs, rh, z⟩ => RSt.here z rh σ rs
theorem ss_retN : PS X (.Return none pos) (tS (gx X cl) Wx fun ρ h => .ok (.ret .non, ρ) h) := conseqS ps_retN fun D σ H ⟨m, ρ, h, rs, rh, z⟩ => RSt.here z rh .non .non'
theorem ss_doc {x : Str} {j : Nat} {pos' : Pos} : PS X (.Expr (.Constant (.str x) j pos) pos') (tS (gx X cl) Wx fun ρ h => .ok (.next, ρ) h) := conseqS ps_doc fun D σ H ⟨m, ρ, h, rs, rh, z⟩ => RSt.here z rh σ rs
theorem ss_ret (he : PE X e (tE (gx X cl) Wx ee)) : PS X (.Return (some e) pos) (tS (gx X cl) Wx fun ρ h => (ee ρ h).st ρ fun x h => .ok (.ret x, ρ) h) :=
  conseqS (ps_ret he) fun D σ H z => tS.st z fun m1 ρ a b h1 H1 rs rh r z1 => RSt.here z1 rh b r
theorem ss_expr (he : PE X e (tE (gx X cl) Wx ee)) (hs : swapsWith e none pos.line X.env = pure false) : PS X (.Expr e pos) (tS (gx X cl) Wx fun ρ h => (ee ρ h).st ρ fun _ h => .ok (.next, ρ) h) :=
  conseqS (ps_expr he hs) fun D σ H z => tS.st z fun m1 ρ a b h1 H1 rs rh r z1 => RSt.here z1 rh σ rs
theorem ss_asg {tg : Expr} {t : IG} (he : PE X e (tE (gx X cl) Wx ee)) (hg : PG X tg (gG X.K t)) (hs : swapsWithSole [tg] e pos.line X.env = pure false) (hw : swappedStores [tg] e X.env = pure none) (h1 : (assignEach [tg] X.env).map (·.2) = [assign tg X.env]) :
    PS X (.Assign [tg] e pos) (tS (gx X cl) Wx fun ρ h => (ee ρ h).st ρ fun x h => match asg t x ρ with | some ρ' => .ok (.next, ρ') h | none => .err) :=
  conseqS (ps_asg he hg hs hw h1) fun D σ H z => tS.st z fun m1 ρ a b h1 H1 rs rh r z1 => by
    try dsimp only at z1
    split at z1
    · rename_i ρ' e1
      exact gG_ok (G := gx X cl) t rs r e1 fun σ' rs' _ => RSt.here z1 rh σ' rs'
    · exact z1.no
/-- name = [..] on one line -/
theorem ss_setLc {i : Nat} {y : Str} {py : Pos} {elt tg iter : Expr} {ifs : List Expr} {scope : Scope} {own : List (Str × Nat)} {spos : Pos} {ei : En → Hw → Res (List W × Gu)} {et : En → Hw → Res Bool} {ig : IG}
    (hc : X.calm = true) (hN : X.N.Nodup) (hy : X.N[i]? = some y) (hyl : X.env.scope.names.lookup y = some .local)
    (hsw : swapsWith (.ListComp elt [⟨tg, iter, ifs, 0⟩] scope pos) (some (.Name y py)) spos.line X.env = pure true) (hi : PI X tg iter (tI (gx X cl) Wx ei)) (ok : BlkOk X.N X.env.scope scope own)
    (hg : ∀ (s : Shared) (H : Hp) (C : Addr) (cs : List (Str × Addr)) (fp : List Addr), PG (X.blk s H scope (compEnvC scope cs C X.env) fp) tg (gG X.K ig))
    (ht : ∀ (s : Shared) (H : Hp) (C : Addr) (cs : List (Str × Addr)) (fp : List Addr), PTs (X.blk s H scope (compEnvC scope cs C X.env) fp) ifs (tT (gx X cl) noX et))
    (he : ∀ (s : Shared) (H : Hp) (C : Addr) (cs : List (Str × Addr)) (fp : List Addr), PE (X.blk s H scope (compEnvC scope cs C X.env) fp) elt (tE (gx X cl) noX ee)) (hs : ∀ x, foldedSetIterable iter X.env x = pure x) (hsl : ∀ i ∈ slots ig, i ∈ own.map (·.2)) :
    PS X (.Assign [.Name y py] (.ListComp elt [⟨tg, iter, ifs, 0⟩] scope pos) spos) (tS (gx X cl) Wx fun ρ h => (((ei ρ h).bind fun q h => (compL ig q.2 et ee (own.map (·.2)) ρ q.1 h []).bind fun ys h => Res.ok (ys, ([] : Gu), false) h).bind fun q h => Res.ok (W.ref h.length) (h ++ [.lst q.1])).st ρ fun x h => match asg (.var i) x ρ with | some ρ' => .ok (.next, ρ') h | none => .err) :=
  conseqS (ps_setLc hc hN hy hyl hsw hi ok hg ht he hs) fun D σ H z => tLc_list hsl (tS.st z fun m1 ρ a b h1 H1 rs rh r z1 => RSt.here z1 rh _ (rs.setS r i))
/-- a comprehension as a value, as items -/
theorem s_lc {elt tg iter : Expr} {ifs : List Expr} {scope : Scope} {own : List (Str × Nat)} {ei : En → Hw → Res (List W × Gu)} {et : En → Hw → Res Bool} {ig : IG}
    (hc : X.calm = true) (hN : X.N.Nodup) (hi : PI X tg iter (tI (gx X cl) Wx ei)) (ok : BlkOk X.N X.env.scope scope own)
    (hg : ∀ (s : Shared) (H : Hp) (C : Addr) (cs : List (Str × Addr)) (fp : List Addr), PG (X.blk s H scope (compEnvC scope cs C X.env) fp) tg (gG X.K ig))
    (ht : ∀ (s : Shared) (H : Hp) (C : Addr) (cs : List (Str × Addr)) (fp : List Addr), PTs (X.blk s H scope (compEnvC scope cs C X.env) fp) ifs (tT (gx X cl) noX et))
    (he : ∀ (s : Shared) (H : Hp) (C : Addr) (cs : List (Str × Addr)) (fp : List Addr), PE (X.blk s H scope (compEnvC scope cs C X.env) fp) elt (tE (gx X cl) noX ee)) (hs : ∀ x, foldedSetIterable iter X.env x = pure x) (hsl : ∀ i ∈ slots ig, i ∈ own.map (·.2)) :
    PE X (.ListComp elt [⟨tg, iter, ifs, 0⟩] scope pos) (tL (gx X cl) Wx fun ρ h => (ei ρ h).bind fun q h => (compL ig q.2 et ee (own.map (·.2)) ρ q.1 h []).bind fun ys h => .ok (ys, [], false) h) :=
  conseq (pe_lc hc hN hi ok hg ht he hs) fun σ H Q z => tLc_items hsl z
/-- a new list of items in the air -/
theorem s_mkDisp {els : List Expr} {ees : En → Hw → Res (List W)} (h : PA X els (tEs (gx X cl) Wx ees)) : PE X (.List els pos) (tE (gx X cl) Wx fun ρ h => (ees ρ h).bind fun vs h => if vs.length ≤ lim then .ok (.ref h.length) (h ++ [.lst vs]) else .err) := s_lst h
theorem s_mkLc {elt tg iter : Expr} {ifs : List Expr} {scope : Scope} {own : List (Str × Nat)} {ei : En → Hw → Res (List W × Gu)} {et : En → Hw → Res Bool} {ig : IG}
    (hc : X.calm = true) (hN : X.N.Nodup) (hi : PI X tg iter (tI (gx X cl) Wx ei)) (ok : BlkOk X.N X.env.scope scope own)
    (hg : ∀ (s : Shared) (H : Hp) (C : Addr) (cs : List (Str × Addr)) (fp : List Addr), PG (X.blk s H scope (compEnvC scope cs C X.env) fp) tg (gG X.K ig))
    (ht : ∀ (s : Shared) (H : Hp) (C : Addr) (cs : List (Str × Addr)) (fp : List Addr), PTs (X.blk s H scope (compEnvC scope cs C X.env) fp) ifs (tT (gx X cl) noX et))
    (he : ∀ (s : Shared) (H : Hp) (C : Addr) (cs : List (Str × Addr)) (fp : List Addr), PE (X.blk s H scope (compEnvC scope cs C X.env) fp) elt (tE (gx X cl) noX ee)) (hs : ∀ x, foldedSetIterable iter X.env x = pure x) (hsl : ∀ i ∈ slots ig, i ∈ own.map (·.2)) :
    PE X (.ListComp elt [⟨tg, iter, ifs, 0⟩] scope pos) (tE (gx X cl) Wx fun ρ h => ((ei ρ h).bind fun q h => (compL ig q.2 et ee (own.map (·.2)) ρ q.1 h []).bind fun ys h => Res.ok (ys, ([] : Gu), false) h).bind fun q h => .ok (.ref h.length) (h ++ [.lst q.1])) :=
  conseq (pe_lc hc hN hi ok hg ht he hs) fun σ H Q z => tLc_list hsl z
/-- o[i] = e -/
theorem ss_set {o i : Expr} {eo ei : En → Hw → Res W} {p2 : Pos} (he : PE X e (tE (gx X cl) Wx ee)) (ho : PE X o (tE (gx X cl) Wx eo)) (hi : PE X i (tE (gx X cl) Wx ei))
    (ha : ∀ v, assign (.Subscript o i p2) X.env v = (do
      let ov ← holding [v] (eval o X.env)
      let iv ← holding [v, ov] (eval i X.env)
      standAt p2
      holding [v, ov, iv] (setItem ov iv v)
      release [v, ov, iv] [])) (hs : swapsWithSole [.Subscript o i p2] e pos.line X.env = pure false) (hw : swappedStores [.Subscript o i p2] e X.env = pure none) (h1 : (assignEach [.Subscript o i p2] X.env).map (·.2) = [assign (.Subscript o i p2) X.env]) :
    PS X (.Assign [.Subscript o i p2] e pos) (tS (gx X cl) Wx fun ρ h => (ee ρ h).st ρ fun v h => (eo ρ h).st ρ fun x h => (ei ρ h).st ρ fun y h => match Ev.setIt x y v h with
      | some h' => .ok (.next, ρ) h'
      | none => .err) :=
  conseqS (ps_asg he (pg_sub ho hi set_list ha) hs hw h1) fun D σ H z => tS.st z fun m1 ρ a b h1 H1 rs rh r z1 => RSt.go rs rh z1 fun m2 a2 b2 h2 H2 n2 rs2 rh2 r2 z2 => RSt.go rs2 rh2 z2 fun m3 a3 b3 h3 H3 n3 rs3 rh3 r3 z3 => by
    try dsimp only at z3
    split at z3
    · rename_i h' e1
      exact setS rh3 (r2.mono n3) r3 ((r.mono n2).mono n3) e1 fun m' H' n' rh' => z3 m' H' n' rh' σ (rs3.mono n')
    · exact z3.no
theorem ss_augAdd {i : Nat} {x : Str} {p2 : Pos} (hN : X.N.Nodup) (hi : X.N[i]? = some x) (hx : Loc X.env.scope x) (he : PE X e (tE (gx X cl) Wx ee)) (hf : X.fn x = true ∨ X.env.scope.names.lookup x = some .local) :
    PS X (.AugAssign (.Name x p2) .Add e pos) (tS (gx X cl) Wx fun ρ h => match ρ[i]? with
      | some (some x) => (ee ρ h).st ρ fun y h => match Bop.add, x, y with
        | .add, .int a, .int b => .ok (.next, ρ.set i (some (.int (a + b)))) h
        | .sub, .int a, .int b => .ok (.next, ρ.set i (some (.int (a - b)))) h
        | _, _, _ => .err
      | _ => .err) :=
  conseqS (ps_aug hN hi hx he ip_add hf) fun D σ H ⟨m, ρ, h, rs, rh, z⟩ => by
    try dsimp only at z
    split at z
    · rename_i w e1
      obtain ⟨v, e2, rv⟩ := rs.get e1
      refine ⟨v, e2, RSt.go rs rh z fun m1 a b h1 H1 n rs1 rh1 r z1 => ?_⟩
      cases w with
      | int i1 =>
        cases a with
        | int i2 =>
          rw [rv.int_of, r.int_of]
          exact ⟨i1, i2, rfl, rfl, RSt.here z1 rh1 _ (rs1.setS .int' i)⟩
        | _ => exact z1.no
      | _ => cases a <;> exact z1.no
    · exact z.no
theorem ss_augSub {i : Nat} {x : Str} {p2 : Pos} (hN : X.N.Nodup) (hi : X.N[i]? = some x) (hx : Loc X.env.scope x) (he : PE X e (tE (gx X cl) Wx ee)) (hf : X.fn x = true ∨ X.env.scope.names.lookup x = some .local) :
    PS X (.AugAssign (.Name x p2) .Sub e pos) (tS (gx X cl) Wx fun ρ h => match ρ[i]? with
      | some (some x) => (ee ρ h).st ρ fun y h => match Bop.sub, x, y with
        | .add, .int a, .int b => .ok (.next, ρ.set i (some (.int (a + b)))) h
        | .sub, .int a, .int b => .ok (.next, ρ.set i (some (.int (a - b)))) h
        | _, _, _ => .err
      | _ => .err) :=
  conseqS (ps_aug hN hi hx he ip_sub hf) fun D σ H ⟨m, ρ, h, rs, rh, z⟩ => by
    try dsimp only at z
    split at z
    · rename_i w e1
      obtain ⟨v, e2, rv⟩ := rs.get e1
      refine ⟨v, e2, RSt.go rs rh z fun m1 a b h1 H1 n rs1 rh1 r z1 => ?_⟩
      cases w with
      | int i1 =>
        cases a with
        | int i2 =>
          rw [rv.int_of, r.int_of]
          exact ⟨i1, i2, rfl, rfl, RSt.here z1 rh1 _ (rs1.setS .int' i)⟩
        | _ => exact z1.no
      | _ => cases a <;> exact z1.no
    · exact z.no
/-- an item of a list, by values -/
def rGetL (K : PySem.W.Frag) : V → V → Hp → VK → Prop := fun x y H Q => ∃ p xs i v, x = .ref p ∧ y = .int i ∧ SqL K H p xs ∧ 0 ≤ i ∧ xs[i.toNat]? = some v ∧ Q v H
theorem get_listL {X : Cx} : PGet X (rGetL X.K) := by
  intro pins s σ H x y v u Q I rx ry h
  obtain ⟨p, xs, i, z, rfl, rfl, hq, h0, he, q⟩ := h
  cases rx
  obtain ⟨t, rfl⟩ := ry
  obtain ⟨its, r, pl, hz⟩ := I.list hq
  obtain ⟨w, ew, rw'⟩ := r.get he
  have hl := r.length
  have hn := line63
  obtain ⟨hi, _⟩ := List.getElem?_eq_some_iff.mp he
  exact wpAny_getItem_list pl.isList h0 (by omega) (by simpa using ew) ⟨z, H, I, rw', q⟩
theorem getL_of {G : GX} {m : List Addr} {H : Hp} {h : Hw} {a b : W} {x y : V} {r : Res W} (e : itemL a b h = r) (rh : RelH G.K m H h) (ra : Rep G.K H m a x) (rb : Rep G.K H m b y) :
    r = .err ∨ ∃ w, r = .ok w h ∧ ∃ p xs i v, x = .ref p ∧ y = .int i ∧ SqL G.K H p xs ∧ 0 ≤ i ∧ xs[i.toNat]? = some v ∧ Rep G.K H m w v := by
  subst e
  cases a with
  | ref p =>
    cases b with
    | int k =>
      obtain ⟨q, e1, rfl⟩ := ra.ref_of
      rw [rb.int_of]
      show (match h[p]? with
        | some (.lst xs) => if 0 ≤ k then (match xs[k.toNat]? with | some v => Res.ok v h | none => .err) else .err
        | _ => .err) = .err ∨ ∃ w, (match h[p]? with
        | some (.lst xs) => if 0 ≤ k then (match xs[k.toNat]? with | some v => Res.ok v h | none => .err) else .err
        | _ => .err) = .ok w h ∧ _
      split
      · rename_i xs hx
        split
        · rename_i h0
          split
          · rename_i v hv
            obtain ⟨vs, f, r⟩ := rh.lst hx e1
            obtain ⟨u, hu, ru⟩ := r.get hv
            exact .inr ⟨v, rfl, q, vs, k, u, rfl, rfl, .of f, h0, hu, ru⟩
          · exact .inl rfl
        · exact .inl rfl
      · exact .inl rfl
    | _ => exact .inl rfl
  | _ => exact .inl rfl
theorem ss_augSub1 {p : Bop} {op : Operator} {g : Int → Int → Int} {o i : Expr} {eo ei : En → Hw → Res W} {p2 : Pos} (hp : PIp X op (ipI g)) (ho : PE X o (tE (gx X cl) Wx eo)) (hi : PE X i (tE (gx X cl) Wx ei)) (he : PE X e (tE (gx X cl) Wx ee)) (hg : ∀ w v z, augO p w v = some z → ∃ a b, w = .int a ∧ v = .int b ∧ z = .int (g a b))
    (ha : ∀ ov iv new, augStore i ov iv new = (do holding [new, ov, iv] (setItem ov iv new); release [new, ov, iv] []; pure .next)) :
    PS X (.AugAssign (.Subscript o i p2) op e pos) (tS (gx X cl) Wx fun ρ h => (eo ρ h).st ρ fun x h => (ei ρ h).st ρ fun y h => (itemL x y h).st ρ fun w h => (ee ρ h).st ρ fun v h => match augO p w v with
      | some z => (match Ev.setIt x y z h with
        | some h' => .ok (.next, ρ) h'
        | none => .err)
      | none => .err) :=
  conseqS (ps_augS ho hi get_listL he hp set_list ha) fun D σ H z => tS.st z fun m1 ρ a b h1 H1 rs rh r z1 => RSt.go rs rh z1 fun m2 a2 b2 h2 H2 n2 rs2 rh2 r2 z2 => by
    generalize hi : itemL _ _ _ = q at z2
    rcases getL_of hi rh2 (r.mono n2) r2 with rfl | ⟨w, rfl, p, xs, i, v, rfl, rfl, s1, h0, hv, rv⟩
    · exact z2.no
    · refine ⟨p, xs, i, v, rfl, rfl, s1, h0, hv, RSt.go rs2 rh2 z2 fun m3 a3 b3 h3 H3 n3 rs3 rh3 r3 z3 => ?_⟩
      try dsimp only at z3
      split at z3
      · rename_i zw hz
        obtain ⟨c1, c2, rfl, rfl, rfl⟩ := hg _ _ _ hz
        rw [rv.int_of, r3.int_of]
        refine ⟨c1, c2, rfl, rfl, ?_⟩
        split at z3
        · rename_i h' e1
          exact setS rh3 ((r.mono n2).mono n3) (r2.mono n3) .int' e1 fun m' H' n' rh' => z3 m' H' n' rh' σ (rs3.mono n')
        · exact z3.no
      · exact z3.no
theorem augO_add : ∀ w v z, augO .add w v = some z → ∃ a b, w = .int a ∧ v = .int b ∧ z = .int (a + b) := fun w v z h => by
  cases w <;> cases v <;> first | (cases h; done) | (unfold augO at h; cases h; exact ⟨_, _, rfl, rfl, rfl⟩)
theorem augO_sub : ∀ w v z, augO .sub w v = some z → ∃ a b, w = .int a ∧ v = .int b ∧ z = .int (a - b) := fun w v z h => by
  cases w <;> cases v <;> first | (cases h; done) | (unfold augO at h; cases h; exact ⟨_, _, rfl, rfl, rfl⟩)
variable {c : Expr} {ec : En → Hw → Res Bool} {bs bs2 : List Stmt}
theorem ss_if (hc : PT X c (tT (gx X cl) Wx ec)) (ha : PSs X bs (tS (gx X cl) Wx es)) (hb : PSs X bs2 (tS (gx X cl) Wx es2)) :
    PS X (.If c bs bs2 pos) (tS (gx X cl) Wx fun ρ h => (ec ρ h).st ρ fun k h => if k = true then es ρ h else es2 ρ h) :=
  conseqS (ps_if hc ha hb) fun D σ H z => tS.st z fun m1 ρ a b h1 H1 rs rh r z1 => by
    rw [show b = a from r]
    cases a with
    | true => exact iteT (.here rs rh z1)
    | false => exact iteF (.here rs rh z1)
theorem ss_for {tg iter : Expr} {t : IG} {ei : En → Hw → Res (List W × Gu)} (hp : PassesOwn (model X.prog X.w) X.A X.env X.xe) (hc : X.calm = true) (hi : PI X tg iter (tI (gx X cl) Wx ei)) (hg : PG X tg (gG X.K t)) (hb : PSs X bs (tS (gx X cl) Wx es)) (hs : ∀ x, foldedSetIterable iter X.env x = pure x) :
    PS X (.For tg iter bs [] pos) (tS (gx X cl) Wx fun ρ h => (ei ρ h).st ρ fun q h => forL t q.2 es q.1 ρ h) :=
  conseqS (ps_for hp hc hi hg hb hs) fun D σ H z => tS.st z fun m0 ρ0 q J h0 H0 rs0 rh0 it z1 => by
    have ne : forL t q.2 es q.1 ρ0 h0 ≠ .err := fun e => by rw [e] at z1; exact z1.no
    generalize hfull : forL t q.2 es q.1 ρ0 h0 = full at z1 ne
    refine ⟨fun i mm σ H => ∃ m1 ρ h1, Nx m0 H0 m1 H ∧ RepS (gx X cl).K H m1 ρ σ ∧ RelH (gx X cl).K m1 H h1 ∧ mm = q.1.length - i ∧ i ≤ q.1.length ∧ forL t q.2 es (q.1.drop i) ρ h1 = full,
      ⟨q.1.length, m0, ρ0, h0, .refl, rs0, rh0, by simp, Nat.zero_le _, by simpa using hfull⟩, ?_⟩
    rintro i mm σ1 H1 ⟨m1, ρ, h1, n1, rs1, rh1, rfl, hi, hf⟩
    obtain hlt | heq := Nat.lt_or_eq_of_le hi
    · have hd : q.1.drop i = q.1[i] :: q.1.drop (i + 1) := List.drop_eq_getElem_cons hlt
      rw [hd] at hf
      unfold forL at hf
      obtain ⟨gu, hf⟩ := guard_ok hf ne
      obtain ⟨go, yl⟩ := (it i m1 H1 h1 n1 rh1 gu).1 q.1[i] (List.getElem?_eq_getElem hlt)
      refine .inr ⟨go, fun σ' H' => ∃ m1 ρ h1, Nx m0 H0 m1 H' ∧ RepS (gx X cl).K H' m1 ρ σ' ∧ RelH (gx X cl).K m1 H' h1 ∧ forL t q.2 es (q.1.drop (i + 1)) ρ h1 = full,
        fun σ' H' ⟨m2, ρ2, h2, a1, a2, a3, a4⟩ => ⟨q.1.length - (i + 1), by omega, m2, ρ2, h2, a1, a2, a3, rfl, hlt, a4⟩, fun x H2 y => ?_⟩
      obtain ⟨n2, rh2, rx⟩ := yl x H2 y
      split at hf
      · exact absurd hf.symm ne
      · rename_i ρ' ea
        refine gG_ok (G := gx X cl) (m := m1) t (rs1.mono n2) rx ea fun σ2 rs2 _ => .here rs2 rh2 ?_
        have n02 := n1.trans n2
        have fin : ∀ {f : Fl} {ρ3 : En} {h3 : Hw}, (Res.ok (f, ρ3) h3 : Rs) = full → ∀ m' H', Nx m1 H2 m' H' → RelH (gx X cl).K m' H' h3 → FlOk (gx X cl) Wx f ρ3 m' H' D := fun e m' H' n rh' => by
          rw [← e] at z1
          exact z1 m' H' (n02.trans n) rh'
        split at hf
        · rename_i ρ3 h3 e3
          rw [e3]
          exact fun m' H' n rh' σ' rs' => ⟨m', ρ3, h3, n02.trans n, rs', rh', hf⟩
        · rename_i ρ3 h3 e3
          rw [e3]
          exact fun m' H' n rh' σ' rs' => ⟨m', ρ3, h3, n02.trans n, rs', rh', hf⟩
        · rename_i ρ3 h3 e3
          rw [e3]
          exact fun m' H' n rh' σ' rs' => fin hf m' H' n rh' σ' rs'
        · rename_i w ρ3 h3 e3
          rw [e3]
          exact fun m' H' n rh' v r => fin hf m' H' n rh' v r
        · rename_i w ρ3 h3 e3
          rw [e3]
          exact fun m' H' n rh' σ' c d rs' rx' => fin hf m' H' n rh' σ' c d rs' rx'
        · exact absurd hf.symm ne
    · rw [heq, List.drop_length] at hf
      unfold forL at hf
      obtain ⟨gu, hf⟩ := guard_ok hf ne
      subst hf
      exact .inl ⟨(it i m1 H1 h1 n1 rh1 gu).2 (Nat.le_of_eq heq.symm), z1 m1 H1 n1 rh1 σ1 rs1⟩
theorem whl_some {c : En → Hw → Res Bool} {body : En → Hw → Rs} {ρ : En} {h : Hw} (hn : whl c body ρ h ≠ .err) : ∃ n, whlN c body n ρ h = some (whl c body ρ h) := by
  unfold whl at hn ⊢
  split
  · rename_i x
    exact ⟨x.choose, x.choose_spec.choose_spec⟩
  · rename_i x
    rw [dif_neg x] at hn
    exact absurd rfl hn
theorem ss_while (hp : PassesOwn (model X.prog X.w) X.A X.env X.xe) (hc : PT X c (tT (gx X cl) Wx ec)) (hb : PSs X bs (tS (gx X cl) Wx es)) :
    PS X (.While c bs [] pos) (tS (gx X cl) Wx fun ρ h => whl ec es ρ h) :=
  conseqS (ps_while hp hc hb) fun D σ H ⟨m0, ρ0, h0, rs0, rh0, z⟩ => by
    try dsimp only at z
    have ne : whl ec es ρ0 h0 ≠ .err := fun e => by rw [e] at z; exact z.no
    obtain ⟨n, hn⟩ := whl_some ne
    generalize whl ec es ρ0 h0 = full at hn z ne
    have fin : ∀ {m1 : List Addr} {H1 : Hp} {f : Fl} {ρ3 : En} {h3 : Hw}, Nx m0 H m1 H1 → (Res.ok (f, ρ3) h3 : Rs) = full → ∀ m' H', Nx m1 H1 m' H' → RelH (gx X cl).K m' H' h3 → FlOk (gx X cl) Wx f ρ3 m' H' D := fun n1 e m' H' n rh' => by
      rw [← e] at z
      exact z m' H' (n1.trans n) rh'
    refine ⟨fun mm σ1 H1 => ∃ m1 ρ h1, Nx m0 H m1 H1 ∧ RepS (gx X cl).K H1 m1 ρ σ1 ∧ RelH (gx X cl).K m1 H1 h1 ∧ whlN ec es mm ρ h1 = some full, ⟨n, m0, ρ0, h0, .refl, rs0, rh0, hn⟩, ?_⟩
    rintro mm σ1 H1 ⟨m1, ρ, h1, n1, rs1, rh1, hw⟩
    cases mm with
    | zero => cases hw
    | succ mm =>
      unfold whlN at hw
      refine ⟨m1, ρ, h1, rs1, rh1, ?_⟩
      cases e1 : ec ρ h1 with
      | ok k h2 =>
        rw [e1] at hw
        intro m2 H2 b n2 rh2 eb
        rw [show b = k from eb]
        have n02 := n1.trans n2
        cases k with
        | false => exact iteF (fin n1 (Option.some.inj hw) m2 H2 n2 rh2 σ1 (rs1.mono n2))
        | true =>
          refine iteT ⟨fun σ' H' => ∃ m1 ρ h1, Nx m0 H m1 H' ∧ RepS (gx X cl).K H' m1 ρ σ' ∧ RelH (gx X cl).K m1 H' h1 ∧ whlN ec es mm ρ h1 = some full, fun σ' H' ⟨m3, ρ3, h3, a1, a2, a3, a4⟩ => ⟨mm, Nat.lt_succ_self _, m3, ρ3, h3, a1, a2, a3, a4⟩, .here (rs1.mono n2) rh2 ?_⟩
          dsimp only at hw
          split at hw
          · rename_i ρ3 h3 e3
            rw [e3]
            exact fun m' H' n rh' σ' rs' => ⟨m', ρ3, h3, n02.trans n, rs', rh', hw⟩
          · rename_i ρ3 h3 e3
            rw [e3]
            exact fun m' H' n rh' σ' rs' => ⟨m', ρ3, h3, n02.trans n, rs', rh', hw⟩
          · rename_i ρ3 h3 e3
            rw [e3]
            exact fun m' H' n rh' σ' rs' => fin n02 (Option.some.inj hw) m' H' n rh' σ' rs'
          · rename_i w ρ3 h3 e3
            rw [e3]
            exact fun m' H' n rh' v r => fin n02 (Option.some.inj hw) m' H' n rh' v r
          · rename_i w ρ3 h3 e3
            rw [e3]
            exact fun m' H' n rh' σ' c d rs' rx' => fin n02 (Option.some.inj hw) m' H' n rh' σ' c d rs' rx'
          · exact absurd (Option.some.inj hw).symm ne
      | exc x h2 =>
        rw [e1] at hw
        exact fun m2 H2 c d n2 rh2 rx => fin n1 (Option.some.inj hw) m2 H2 n2 rh2 σ1 c d (rs1.mono n2) rx
      | err =>
        rw [e1] at hw
        exact absurd (Option.some.inj hw).symm ne
end
end Ev

set_option Elab.async false
set_option linter.all false
set_option maxRecDepth 100000
/-! EvG: max(xs, default=d) over whole numbers. -/
namespace Ev
open PySem L2 PyProof.Rows
section
variable {prog : Program} {w : World} {A : Around} {R : Result → Shared → Prop} {I S : Addr} {fp wr : List Addr} {n : Nat} {P : Nat → Value → Prop} {St : Nat → Heap → Prop} {kw : List (Str × Value)}
abbrev bestO (vs : Array Value) (c : Nat) : Obj := { cls := .type "list", dict := none, data := .seq vs c, slots := #[] }
theorem mxName : (toString "max" ++ toString ".loop" : String) = "max.loop" := by decide
/-- behind the first element -/
theorem mxTail (W : Walks prog w A.in1 I fp wr n P St) (bt : Nat → Nat → Bool) (hc : CmpOf prog w A.in1 .Gt P bt) (hf : S ∉ fp) (k : Nat) :
    ∀ {j c : Nat} {s : Shared} {b : Value}, j + 1 + k = n → St (j + 1) s.heap → P (argBest bt j) b → s.heap.get? S = some (bestO #[b, b] c) →
      (∀ v h' tk, P (argBest bt (n - 1)) v → (∀ a o, a ∉ wr → a ≠ S → s.heap.get? a = some o → h'.get? a = some o) → R (.ok (.ret v)) { s with heap := h', toks := tk }) →
      codeAny (model prog w) A (.builtin "max.loop" ⟨[.ref I, .none, .ref S], kw⟩) R s := by
  have hw : S ∉ wr := fun z => hf (W.sub _ z)
  induction k with
  | zero =>
    intro j c s b hn st pb hS hR
    refine codeAny_builtin F.entry_max_loop (by
      rw [Around.under_plainId F.plain_max_loop _]
      refine wpAny_bind (m := seqItems? (.ref S)) (wpAny_seqItems hS rfl (wpAny_bind (m := tryCatch (pyNext (.ref I)) _) (wpAny_tryCatch (W.done s _ _ (hn ▸ st) fun h' tk keep => ?_))))
      have hS' := keep S _ hw hS
      refine wpAny_bind (m := updateSeq S (fun _ => #[])) (wpAny_updateSeq hS' rfl (wpAny_bind (m := letGo _ _) (wpAny_letGo (wpAny_pure (hR b _ tk (by rw [← hn]; exact pb) fun a o ha hne e => ?_)))))
      exact (Heap.get?_update_other _ _ (Ne.symm hne)).trans (keep a o ha e))
  | succ k ih =>
    intro j c s b hn st pb hS hR
    refine codeAny_builtin F.entry_max_loop (by
      rw [Around.under_plainId F.plain_max_loop _]
      refine wpAny_bind (m := seqItems? (.ref S)) (wpAny_seqItems hS rfl (wpAny_bind (m := tryCatch (pyNext (.ref I)) _) (wpAny_tryCatch (W.item (j + 1) s _ _ (by omega) st fun v h' tk pv st' keep => ?_))))
      have hS' := keep S _ hw hS
      refine wpAny_bind (m := tryCatch (holding [v, v] (richCompare .Gt v b >>= _)) _) (wpAny_tryCatch (wpAny_holding (wpAny_bind (hc (j + 1) (argBest bt j) v b _ _ _ pv pb (wpAny_bind (wpAny_holding (wpAny_truthy_bool (wpAny_bind (wpAny_letGo (wpAny_pure ?_))))))))))
      cases hb : bt (j + 1) (argBest bt j) with
      | true =>
        refine wpAny_bind (m := updateSeq S (fun _ => #[v, v])) (wpAny_updateSeq hS' rfl (wpAny_bind (m := letGo _ _) (wpAny_letGo ?_)))
        rw [mxName]
        refine wpAny_pure ⟨plainId_quiet F.plain_max_loop _, ih (j := j + 1) (by omega) (W.frame _ _ _ st' fun a ha o e => (Heap.get?_update_other _ _ (fun z : S = a => hf (by rw [z]; exact ha))).trans e) (by simp only [argBest, hb, if_true]; exact pv) (Heap.get?_update_self _ hS' rfl) fun v' h2 t2 pv' k2 => ?_⟩
        exact hR v' h2 t2 pv' fun a o ha hne e => k2 a o ha hne ((Heap.get?_update_other _ _ (Ne.symm hne)).trans (keep a o ha e))
      | false =>
        refine wpAny_bind (m := letGo _ _) (wpAny_letGo ?_)
        rw [mxName]
        refine wpAny_pure ⟨plainId_quiet F.plain_max_loop _, ih (j := j + 1) (by omega) st' (by simp only [argBest, hb, Bool.false_eq_true, if_false]; exact pb) hS' fun v' h2 t2 pv' k2 => ?_⟩
        exact hR v' h2 t2 pv' fun a o ha hne e => k2 a o ha hne (keep a o ha e))
/-- from the beginning -/
theorem mxHead (W : Walks prog w A.in1 I fp wr n P St) (bt : Nat → Nat → Bool) (hc : CmpOf prog w A.in1 .Gt P bt) (hf : S ∉ fp) {c : Nat} {s : Shared} {nm : Str} {d : Value} (st : St 0 s.heap) (hS : s.heap.get? S = some (bestO #[] c))
    (h0 : n = 0 → ∀ h' tk, (∀ a o, a ∉ wr → a ≠ S → s.heap.get? a = some o → h'.get? a = some o) → R (.ok (.ret d)) { s with heap := h', toks := tk })
    (h1 : 0 < n → ∀ v h' tk, P (argBest bt (n - 1)) v → (∀ a o, a ∉ wr → a ≠ S → s.heap.get? a = some o → h'.get? a = some o) → R (.ok (.ret v)) { s with heap := h', toks := tk }) :
    codeAny (model prog w) A (.builtin "max.loop" ⟨[.ref I, .none, .ref S], [(nm, d)]⟩) R s := by
  have hw : S ∉ wr := fun z => hf (W.sub _ z)
  rcases Nat.eq_zero_or_pos n with z | z
  · refine codeAny_builtin F.entry_max_loop (by
      rw [Around.under_plainId F.plain_max_loop _]
      refine wpAny_bind (m := seqItems? (.ref S)) (wpAny_seqItems hS rfl (wpAny_bind (m := tryCatch (pyNext (.ref I)) _) (wpAny_tryCatch (W.done s _ _ (z ▸ st) fun h' tk keep => ?_))))
      refine wpAny_bind (m := rule _) (wpAny_rule (wpAny_pure (h0 z h' tk fun a o ha _ e => keep a o ha e))))
  · refine codeAny_builtin F.entry_max_loop (by
      rw [Around.under_plainId F.plain_max_loop _]
      refine wpAny_bind (m := seqItems? (.ref S)) (wpAny_seqItems hS rfl (wpAny_bind (m := tryCatch (pyNext (.ref I)) _) (wpAny_tryCatch (W.item 0 s _ _ z st fun v h' tk pv st' keep => ?_))))
      have hS' := keep S _ hw hS
      refine wpAny_bind (m := updateSeq S (fun _ => #[v, v])) (wpAny_updateSeq hS' rfl ?_)
      rw [mxName]
      refine wpAny_pure ⟨plainId_quiet F.plain_max_loop _, mxTail W bt hc hf (n - 1) (j := 0) (by omega) (W.frame _ _ _ st' fun a ha o e => (Heap.get?_update_other _ _ (fun z : S = a => hf (by rw [z]; exact ha))).trans e) pv (Heap.get?_update_self _ hS' rfl) fun v' h2 t2 pv' k2 => ?_⟩
      exact h1 z v' h2 t2 pv' fun a o ha hne e => k2 a o ha hne ((Heap.get?_update_other _ _ (Ne.symm hne)).trans (keep a o ha e)))
end
section
variable {prog : Program} {w : World} {A : Around} {E : Value → Shared → Prop} {s : Shared} {l : Addr} {its : List Value} {ns : List Int} {Q : Value → Shared → Prop} {d : Value}
theorem mxArgs (a v : Value) : argsOk "max" ⟨[a], [(Str.ofString "default", v)]⟩ := by unfold argsOk; kernel_rfl
theorem mxBind (v : Value) : Builtin.Builtins.bindParams "max" ["key", "default"] 0 ⟨[], [(Str.ofString "default", v)]⟩ = pure [none, some v] := by first | rfl | kernel_rfl
theorem maxD_raw (hh : A.handled = none) (hl : s.heap.IsList l its.toArray) (hi : IntsAre its ns)
    (h0 : ns = [] → ∀ h' tk, (∀ b o, s.heap.get? b = some o → h'.get? b = some o) → Q d { s with heap := h', toks := tk })
    (h1 : ∀ h' tk M t', (∀ b o, s.heap.get? b = some o → h'.get? b = some o) → M ∈ ns → (∀ a, a ∈ ns → a ≤ M) → Q (.int M t') { s with heap := h', toks := tk }) :
    wpAny (model prog w) A (call (.builtin "max") [.ref l] [(Str.ofString "default", d)]) Q E s := by
  obtain ⟨xs, e⟩ := hi.allInts.items
  have hn : numsOf (intItems xs).toList = ns := by rw [← e]; exact hi.numsOf
  rw [nums_intItems] at hn
  subst hn
  rw [e] at hl
  have ha := mxArgs (.ref l) d
  have body : wpAny (model prog w) A.in1 (Builtin.«max» ⟨[.ref l], [(Str.ofString "default", d)]⟩) (fun fin s' => match fin with
      | .done f => (match (Except.ok f : Result) with | .ok (.ret v) => Q v s' | .ok _ => False | .error e => E e s')
      | .again c' => c'.quiet = true ∧ codeAny (model prog w) A c' (fun r s' => match r with | .ok (.ret v) => Q v s' | .ok _ => False | .error e => E e s') s') E s := by
    refine wpAny_bind (m := Builtin.Builtins.bindParams "max" ["key", "default"] 0 ⟨[], [(Str.ofString "default", d)]⟩) (wpAny_of_eq (mxBind d) (wpAny_bind (wpAny_pure (wpAny_bind (m := pyIter (.ref l)) (iter_intList hl fun s2 e2 st hfp hne => ?_)))))
    subst e2
    refine wpAny_bind (wpAny_newObj_type ?_)
    rw [mxName]
    have W := Walks.list (prog := prog) (w := w) (A := A.in1) hh s.heap.objs.size l hne (intItems xs)
    refine wpAny_pure ⟨plainId_quiet F.plain_max_loop _, mxHead W _ (CmpOf.ints_gt (numAt xs) fun _ _ => intItems_at) (fun hm => Nat.lt_irrefl _ (hfp _ hm)) (W.frame _ _ _ st fun b _ o e => Heap.get?_push_of_some _ e) (Heap.get?_push_size _ rfl) (fun z h' tk keep => ?_) fun z v h' tk pv keep => ?_⟩
    · refine h0 ?_ h' tk (old_kept fun b o hb e => keep b o hb (Nat.ne_of_lt (Heap.lt_size e)) (Heap.get?_push_of_some _ e))
      have : xs.size = 0 := by simpa [intItems] using z
      have : xs = #[] := Array.eq_empty_of_size_eq_zero this
      rw [this]; rfl
    · have hz : (intItems xs).size = xs.size := by simp [intItems]
      rw [hz] at pv z
      obtain ⟨t, rfl⟩ := intItems_at pv
      obtain ⟨m1, m2⟩ := argBest_gt (numAt xs) (xs.size - 1)
      refine h1 h' tk _ t (old_kept fun b o hb e => keep b o hb (Nat.ne_of_lt (Heap.lt_size e)) (Heap.get?_push_of_some _ e)) ?_ fun a q => ?_
      · rw [numAt_eq]; exact PySem.getD_mem (by rw [List.length_map, Array.length_toList]; omega)
      · obtain ⟨j, hj, rfl⟩ := mem_getD q
        rw [List.length_map, Array.length_toList] at hj
        rw [← numAt_eq]; exact m2 j (by omega)
  refine wpAny_call (codeAny_call_builtin F.plain_max F.entry_max ?_)
  simp only [checkBuiltinCall, F.kind_max]
  generalize hsig : Manifest.signature? "max" = sg
  cases sg with
  | none => exact wpAny_pure body
  | some sig =>
    simp only [argsOk, hsig] at ha
    exact wpAny_of_eq (show Bind.checkArgs "max" sig ⟨[.ref l], [(Str.ofString "default", d)]⟩ = pure () from ha) body
end
section
variable {X : Cx}
/-- the greatest of some whole numbers, d of none -/
def rMaxDf (K : PySem.W.Frag) : List V → List V → Hp → VK → Prop := fun vs zs H Q => ∃ (a : Addr) (ns : List Int) (d : V), vs = [V.ref a] ∧ zs = [d] ∧ SqL K H a (ns.map V.int) ∧ (ns = [] → Q d H) ∧ ∀ m, m ∈ ns → (∀ y, y ∈ ns → y ≤ m) → Q (.int m) H
theorem cr_maxDf (hc : X.calm = true) : CallRK X (.builtin "max") [Str.ofString "default"] (rMaxDf X.K) := by
  intro pins s σ H vs zs us ws Q I r rz h
  obtain ⟨a, ns, d, rfl, rfl, hs, q0, q1⟩ := h
  obtain rfl := Vals.ref1 r
  obtain ⟨w1, rfl, e1⟩ := vals1 rz
  obtain ⟨its, rv, hl, _⟩ := I.list hs
  exact maxD_raw (I.ok.hd hc) hl.isList rv.ints (fun z h' tk hk => ⟨d, H, I.kept hk, e1, q0 z⟩) fun h' tk m t' hk h1 h2 => ⟨.int _, H, I.kept hk, ⟨_, rfl⟩, q1 m h1 h2⟩
end
section
theorem ins_pw (x : Int) : ∀ l : List Int, l.Pairwise (· ≤ ·) → (ins x l).Pairwise (· ≤ ·)
  | [], _ => by unfold ins; simp
  | y :: l, h => by
    unfold ins
    rw [List.pairwise_cons] at h
    by_cases c : x ≤ y
    · rw [if_pos c, List.pairwise_cons, List.pairwise_cons]
      refine ⟨fun z hz => ?_, h⟩
      rcases List.mem_cons.mp hz with rfl | q
      · exact c
      · have := h.1 z q; omega
    · rw [if_neg c, List.pairwise_cons]
      refine ⟨fun z hz => ?_, ins_pw x l h.2⟩
      rcases List.mem_cons.mp ((ins_perm x l).subset hz) with rfl | q
      · omega
      · exact h.1 z q
theorem isort_pw : ∀ l : List Int, (isort l).Pairwise (· ≤ ·)
  | [] => by unfold isort; simp
  | x :: l => by unfold isort; exact ins_pw x _ (isort_pw l)
theorem isort_uniq {l m : List Int} (p : m.Perm l) (s : m.Pairwise (· ≤ ·)) : m = isort l :=
  List.Perm.eq_of_pairwise (fun a b _ _ x y => Int.le_antisymm x y) s (isort_pw l) (p.trans (isort_perm l).symm)
end
section
variable {X : Cx} {cl : List Value} {Wx : WX} {pos p kpos : Pos} {x : Str} {e : Expr} {el : En → Hw → Res (List W × Gu × Bool)}
theorem srcL {G : GX} {m : List Addr} {H : Hp} {h : Hw} {q : List W × Gu × Bool} {v : V} {ns : List Int} (s : Src G.K H m q v) (b : ¬ q.2.2 = true) (hn : toInts q.1 = some ns) : ∃ a, v = .ref a ∧ SqL G.K H a (ns.map V.int) := by
  obtain ⟨a, vs, rfl, r, s⟩ := s
  have e := ints_of r hn
  subst e
  rcases s with ⟨_, z⟩ | ⟨_, s | s | ⟨n, _, s, _⟩⟩
  · exact absurd z b
  · exact ⟨a, rfl, s.sq⟩
  · exact ⟨a, rfl, .of s.1⟩
  · exact ⟨a, rfl, .of s⟩
theorem s_maxD {j : Int} {jj : Nat} {cpos : Pos} (hc : X.calm = true) (hx : x = "max") (hg : Gl X x) (hm : X.mg x = none) (ha : PE X e (tL (gx X cl) Wx el)) (he : starEach [e] X.env = [(false, eval e X.env)]) :
    PE X (.Call (.Name x p) [e] [⟨some (Str.ofString "default"), .Constant (.int j) jj cpos, kpos⟩] pos) (tE (gx X cl) Wx fun ρ h => (el ρ h).bind fun q h => maxDf q.1 q.2.2 j h) := by
  subst hx
  refine conseq (pe_callBK (cr_maxDf hc) hg hm (by decide +kernel) (s_one1 ha he) (pk_cons pe_int pk_nil) (by decide) (by decide) (by rw [he]; rfl) (by rw [he]; rfl)) fun σ H Q z => tR.bind z fun m ρ q v h H1 rs rh rr z1 => ?_
  have z1 : RV (gx X cl) (Rep (gx X cl).K) m H1 (if q.2.2 = true then .err else match toInts q.1 with
    | some [] => .ok (.int j) h
    | some (n :: ns) => .ok (.int (maxL (n :: ns))) h
    | none => .err) Q _ := z1
  split at z1
  · exact z1.no
  · rename_i hb
    split at z1
    · rename_i hn
      obtain ⟨a, rfl, s⟩ := srcL (h := h) rr hb hn
      exact ⟨a, [], .int j, rfl, rfl, s, fun _ => z1.here rh .int', fun M h1 _ => by simp at h1⟩
    · rename_i n ns hn
      obtain ⟨a, rfl, s⟩ := srcL (h := h) rr hb hn
      exact ⟨a, n :: ns, .int j, rfl, rfl, s, fun z => by simp at z, fun M h1 h2 => by rw [maxL_uniq h1 h2]; exact z1.here rh .int'⟩
    · exact z1.no
theorem s_srt (hx : x = "sorted") (hg : Gl X x) (hm : X.mg x = none) (ha : PE X e (tL (gx X cl) Wx el)) (he : starEach [e] X.env = [(false, eval e X.env)]) :
    PE X (.Call (.Name x p) [e] [] pos) (tE (gx X cl) Wx fun ρ h => (el ρ h).bind fun q h => srtf q.1 q.2.2 h) := by
  subst hx
  refine conseq (pe_callB cr_sorted hg hm (by decide +kernel) (s_one1 ha he) (by decide) (by decide) he rfl) fun σ H Q z => tR.bind z fun m ρ q v h H1 rs rh rr z1 => ?_
  have z1 : RV (gx X cl) (Rep (gx X cl).K) m H1 (if q.2.2 = true then .err else match toInts q.1 with
    | some ns => if ns.length < 64 then .ok (.ref h.length) (h ++ [.lst ((isort ns).map .int)]) else .err
    | none => .err) Q _ := z1
  split at z1
  · exact z1.no
  · rename_i hb
    split at z1
    · rename_i ns hn
      obtain ⟨a, rfl, s⟩ := srcL (h := h) rr hb hn
      split at z1
      · rename_i hl
        exact ⟨a, ns, rfl, s, hl, fun ns' q' p1 p2 hq => by rw [isort_uniq p1 p2]; exact z1.newL rh (repL_ints _) q' hq⟩
      · exact z1.no
    · exact z1.no
theorem bls_of {G : GX} {H : Hp} {m : List Addr} : ∀ {ws : List W} {vs : List V} {bs : List Bool}, RepL G.K H m ws vs → toBls ws = some bs → vs = bs.map V.bl
  | [], vs, ns, r, e => by
    unfold RepL at r; subst r
    cases e; rfl
  | w :: ws, vs, ns, r, e => by
    obtain ⟨v, q, rfl, r1, r2⟩ := r.uncons
    cases w with
    | bl i =>
      have e : (toBls ws).map (i :: ·) = some ns := e
      cases e1 : toBls ws with
      | none => rw [e1] at e; cases e
      | some ms =>
        rw [e1] at e; cases e
        rw [r1.bl_of, bls_of r2 e1]; rfl
    | _ => cases e
theorem srcB {G : GX} {m : List Addr} {H : Hp} {h : Hw} {q : List W × Gu × Bool} {v : V} {ns : List Bool} (s : Src G.K H m q v) (b : ¬ q.2.2 = true) (hn : toBls q.1 = some ns) : ∃ a, v = .ref a ∧ SqL G.K H a (ns.map V.bl) := by
  obtain ⟨a, vs, rfl, r, s⟩ := s
  have e := bls_of r hn
  subst e
  rcases s with ⟨_, z⟩ | ⟨_, s | s | ⟨n, _, s, _⟩⟩
  · exact absurd z b
  · exact ⟨a, rfl, s.sq⟩
  · exact ⟨a, rfl, .of s.1⟩
  · exact ⟨a, rfl, .of s⟩
theorem s_aa {kk : Bool} (hc : X.calm = true) (hx : x = (if kk then ("all" : Str) else ("any" : Str))) (hg : Gl X x) (hm : X.mg x = none) (ha : PE X e (tL (gx X cl) Wx el)) (he : starEach [e] X.env = [(false, eval e X.env)]) :
    PE X (.Call (.Name x p) [e] [] pos) (tE (gx X cl) Wx fun ρ h => (el ρ h).bind fun q h => aaf kk q.1 q.2.2 h) := by
  have key : ∀ (q : List W × Gu × Bool) (h : Hw) (m : List Addr) (H1 : Hp) (v : V) (Q : VK) (E : XK), RelH (gx X cl).K m H1 h → Src (gx X cl).K H1 m q v → RV (gx X cl) (Rep (gx X cl).K) m H1 (aaf kk q.1 q.2.2 h) Q E → ∃ (a : Addr) (bs : List Bool), [v] = [V.ref a] ∧ SqL (gx X cl).K H1 a (bs.map V.bl) ∧ Q (.bl (if kk then bs.all id else bs.any id)) H1 := by
    intro q h m H1 v Q E rh rr z1
    have z1 : RV (gx X cl) (Rep (gx X cl).K) m H1 (if q.2.2 = true then .err else match toBls q.1 with
      | some bs => .ok (.bl (if kk then bs.all id else bs.any id)) h
      | none => .err) Q E := z1
    split at z1
    · exact z1.no
    · rename_i hb
      split at z1
      · rename_i ns hn
        obtain ⟨a, rfl, s⟩ := srcB (h := h) rr hb hn
        exact ⟨a, ns, rfl, s, z1.here rh .bl'⟩
      · exact z1.no
  cases kk with
  | true =>
    subst hx
    refine conseq (pe_callB (cr_all hc) hg hm (by decide +kernel) (s_one1 ha he) (by decide) (by decide) he rfl) fun σ H Q z => tR.bind z fun m ρ q v h H1 rs rh rr z1 => key q h m H1 v Q _ rh rr z1
  | false =>
    subst hx
    refine conseq (pe_callB (cr_any hc) hg hm (by decide +kernel) (s_one1 ha he) (by decide) (by decide) he rfl) fun σ H Q z => tR.bind z fun m ρ q v h H1 rs rh rr z1 => key q h m H1 v Q _ rh rr z1
theorem s_tr2 {a b : Expr} {ea eb : En → Hw → Res W} {p p2 pos2 : Pos} (hc : X.calm = true) (hg : Gl X "tuple") (hm : X.mg "tuple" = none) (hg2 : Gl X "range") (hm2 : X.mg "range" = none) (ha : PE X a (tE (gx X cl) Wx ea)) (hb : PE X b (tE (gx X cl) Wx eb)) (hs : starEach [a, b] X.env = [(false, eval a X.env), (false, eval b X.env)]) (hs2 : starEach [b] X.env = [(false, eval b X.env)]) :
    PE X (.Call (.Name "tuple" p) [.Call (.Name "range" p2) [a, b] [] pos2] [] pos) (tE (gx X cl) Wx fun ρ h => (ea ρ h).bind fun x h => (eb ρ h).bind fun y h => match x, y with
      | .int i, .int j => if -(2 ^ 62) ≤ i ∧ i < 2 ^ 62 ∧ -(2 ^ 62) ≤ j ∧ j < 2 ^ 62 ∧ (j - i).toNat ≤ lim then .ok (.tup (rng i (j - i).toNat)) h else .err
      | _, _ => .err) :=
  conseq (pe_tupRg hc hg hm (prg_2 hg2 hm2 ha hb (by rw [hs, hs2]) hs2 (by rw [hs2]; rfl))) fun σ H Q z => tR.bind z fun m ρ w v h H1 rs rh r z1 => tR.next rs rh z1 fun m2 w2 v2 h2 H2 n rs2 rh2 r2 z2 => by
    try dsimp only at z2
    split at z2
    · rename_i i j
      split at z2
      · rename_i hj
        rw [(r.mono n).int_of, r2.int_of]
        exact ⟨i, j, rfl, rfl, ⟨hj.1, hj.2.1, hj.2.2.1, hj.2.2.2.1, hj.2.2.2.2⟩, z2.newT rh2 (rep_rg i j)⟩
      · exact z2.no
    · exact z2.no
end
end Ev

set_option Elab.async false
set_option linter.all false
set_option maxRecDepth 100000
set_option maxHeartbeats 4000000
/-! EvH: ranges backwards and as values, sorted(set(t)), constants of the module, two for. -/
namespace Ev
open PySem PySem.Spec PyProof.Rows L2

/-! ### range(i, j, -1) -/
theorem rngd_get {lo : Int} {n i : Nat} {w : W} (h : (rngd lo n)[i]? = some w) : i < n ∧ w = .int (lo - i) := by
  unfold rngd at h
  rw [List.getElem?_map] at h
  cases e : (List.range n)[i]? with
  | none => rw [e] at h; cases h
  | some j =>
    rw [e] at h; cases h
    obtain ⟨h1, h2⟩ := List.getElem?_eq_some_iff.mp e
    rw [List.getElem_range] at h2
    subst h2
    exact ⟨by simpa using h1, rfl⟩
theorem rngd_len (lo : Int) (n : Nat) : (rngd lo n).length = n := by unfold rngd; simp
theorem itd_ok {G : GX} {m0 : List Addr} {H0 : Hp} {lo : Int} {n : Nat} : ItOk G m0 H0 (Itc lo (-1) n) (rngd lo n, []) := fun i m H hw nx rh g => by
  refine ⟨fun w hw => ?_, fun hl => ?_⟩
  · obtain ⟨h1, rfl⟩ := rngd_get hw
    refine ⟨h1, fun x H' y => ?_⟩
    obtain ⟨rfl, rfl⟩ := y
    have e : lo + (i : Int) * (-1) = lo - i := by omega
    rw [e]
    exact ⟨.refl, rh, .int'⟩
  · rw [rngd_len] at hl; exact hl
section
variable {X : Cx} {cl : List Value} {Wx : WX} {p pos : Pos} {tg a b c : Expr} {ea eb ec : En → Hw → Res W}
theorem s_rng3 {q1 q2 : Pos} (hg : Gl X "range") (hm : X.mg "range" = none) (ha : PE X a (tE (gx X cl) Wx ea)) (hb : PE X b (tE (gx X cl) Wx eb)) (sa : ∀ es env, starEach (a :: es) env = (false, eval a env) :: starEach es env) (sb : ∀ es env, starEach (b :: es) env = (false, eval b env) :: starEach es env) {jj : Nat} :
    PI X tg (.Call (.Name "range" p) [a, b, .UnaryOp .USub (.Constant (.int 1) jj q1) q2] [] pos) (tI (gx X cl) Wx fun ρ h => (ea ρ h).bind fun x h => (eb ρ h).bind fun y h => match x, y with
      | .int i, .int j => if -(2 ^ 62) ≤ i ∧ i < 2 ^ 62 ∧ -(2 ^ 62) ≤ j ∧ j < 2 ^ 62 then .ok (rngd i (i - j).toNat, []) h else .err
      | _, _ => .err) := by
  refine conseqI (pi_range3 hg hm (pa_cons ha (pa_cons hb (pa_cons (pe_un un_neg pe_int) pa_nil rfl) (sb _ _)) (sa _ _)) (sa _ _) (by rw [sb]; rfl)) fun σ H R z => tR.bind z fun m ρ w v h H1 rs rh r z1 => tR.next rs rh z1 fun m2 w2 v2 h2 H2 n rs2 rh2 r2 z2 => ?_
  try dsimp only at z2
  split at z2
  · rename_i i j
    split at z2
    · rename_i hj
      rw [(r.mono n).int_of, r2.int_of]
      exact ⟨1, rfl, i, j, -1, (i - j).toNat, rfl, RgC.neg hj.1 hj.2.1 hj.2.2.1 hj.2.2.2, z2.here rh2 itd_ok⟩
    · exact z2.no
  · exact z2.no

/-! ### range(n) as a value -/
theorem cr_range1 : CallR X (.type "range") (fun vs H Q => ∃ j, vs = [V.int j] ∧ ∀ p, H p = none → Q (.ref p) (upd H p (.rng 0 j))) := by
  intro pins s σ H vs us Q I r h
  obtain ⟨j, rfl, q⟩ := h
  cases r with
  | cons r1 rr =>
    cases rr
    obtain ⟨t, rfl⟩ := r1
    refine call_range_1 ⟨.ref s.heap.objs.size, upd H s.heap.objs.size (.rng 0 j), I.laid (fun b o e => Heap.get?_push_of_some _ e) (Nat.le_refl _) ?_, rfl, q _ (I.hok.fresh (Nat.le_refl _))⟩
    exact ⟨_, _, _, Heap.get?_push_size _ rfl⟩
def iRgV (te : TE) : TI := fun σ H R => te σ H fun x H1 => ∃ a lo hi, x = .ref a ∧ H1 a = some (.rng lo hi) ∧ (-(2 ^ 62) ≤ lo ∧ lo < 2 ^ 62 ∧ -(2 ^ 62) ≤ hi ∧ hi < 2 ^ 62) ∧ R (Itr lo (hi - lo).toNat) H1
theorem pi_rgv {e : Expr} {te : TE} (he : PE X e te) : PI X tg e (iRgV te) := by
  refine ⟨fun pins s σ H R I h => ?_⟩
  refine thn (he.run pins s σ H _ I h) fun v s1 ⟨x, H1, I1, r1, q1⟩ => ?_
  obtain ⟨a, lo, hi, e, hr, ⟨h1, h2, h3, h4⟩, q⟩ := q1
  subst e
  cases r1
  obtain ⟨t, u, v, ho⟩ := I1.hok a _ hr
  refine wpAny_pyIter_range ho (small_one h1 h2 h3 h4) ?_
  refine ⟨s1.heap.objs.size, [s1.heap.objs.size], _, _, H1, rfl, I1.kept (t' := s1.toks) fun b o e => Heap.get?_push_of_some _ e, turn_range _ lo (hi - lo).toNat, ?_, fun b hb => ?_, q⟩
  · have e1 : lo + ((0 : Nat) : Int) * 1 = lo := by simp
    have e2 : (((hi - lo).toNat : Nat) : Int) - ((0 : Nat) : Int) = Builtin.Range.rangeSize lo hi 1 := by rw [rangeSize_one]; split <;> omega
    show IsRangeIter _ _ (lo + ((0 : Nat) : Int) * 1) ((((hi - lo).toNat : Nat) : Int) - ((0 : Nat) : Int)) 1
    rw [e1, e2]
    exact Heap.get?_push_size _ rfl
  · have e : b = s1.heap.objs.size := by simpa using hb
    subst e
    exact I1.fpOk (Nat.le_refl _) (I1.hok.fresh (Nat.le_refl _))
theorem s_rgN (hg : Gl X "range") (hm : X.mg "range" = none) (ha : PE X a (tE (gx X cl) Wx ea)) (hs : starEach [a] X.env = [(false, eval a X.env)]) :
    PE X (.Call (.Name "range" p) [a] [] pos) (tE (gx X cl) Wx fun ρ h => (ea ρ h).bind fun x h => match x with
      | .int j => .ok (.rg 0 j) h
      | _ => .err) := by
  refine conseq (pe_callTy cr_range1 hg hm (by decide +kernel) (pa_cons ha pa_nil hs) (by decide) (by decide) hs rfl) fun σ H Q z => tR.bind z fun m ρ w v h H1 rs rh r z1 => ?_
  try dsimp only at z1
  split at z1
  · rename_i j
    rw [r.int_of]
    refine ⟨j, rfl, fun q hq => ?_⟩
    have n : Nx m H1 m (upd H1 q (.rng 0 j)) := Nx.laid hq
    exact z1 m _ _ n (rh.laid hq) (by unfold Rep; exact ⟨q, rfl, upd_same, rh.free hq⟩)
  · exact z1.no
theorem s_rgv {e : Expr} {ee : En → Hw → Res W} (he : PE X e (tE (gx X cl) Wx ee)) : PI X tg e (tI (gx X cl) Wx fun ρ h => (ee ρ h).bind fun x h => match x with
    | .rg i j => if -(2 ^ 62) ≤ i ∧ i < 2 ^ 62 ∧ -(2 ^ 62) ≤ j ∧ j < 2 ^ 62 then .ok (rng i (j - i).toNat, []) h else .err
    | _ => .err) :=
  conseqI (pi_rgv he) fun σ H R z => tR.bind z fun m ρ w v h H1 rs rh r z1 => by
    try dsimp only at z1
    split at z1
    · rename_i i j
      split at z1
      · rename_i hj
        unfold Rep at r
        obtain ⟨a, rfl, ha, _⟩ := r
        exact ⟨a, i, j, rfl, ha, hj, z1.here rh itr_ok⟩
      · exact z1.no
    · exact z1.no
end

/-! ### sorted(set(t)) -/
theorem insD_mem (x k : Int) : ∀ l : List Int, k ∈ insD x l ↔ k = x ∨ k ∈ l
  | [] => by simp [insD]
  | y :: ys => by
    unfold insD
    split
    · simp
    · split
      · rename_i h1 h2
        subst h2
        simp
      · have := insD_mem x k ys
        simp only [List.mem_cons, this]
        constructor
        · rintro (h | h | h) <;> simp [h]
        · rintro (h | h | h) <;> simp [h]
theorem insD_lt (x : Int) : ∀ l : List Int, l.Pairwise (· < ·) → (insD x l).Pairwise (· < ·)
  | [], _ => by simp [insD]
  | y :: ys, h => by
    have h2 := List.pairwise_cons.mp h
    unfold insD
    split
    · rename_i h1
      refine List.pairwise_cons.mpr ⟨fun z hz => ?_, h⟩
      rcases List.mem_cons.mp hz with e | e
      · rw [e]; exact h1
      · have := h2.1 z e; omega
    · split
      · exact h
      · rename_i h1 h3
        refine List.pairwise_cons.mpr ⟨fun z hz => ?_, insD_lt x ys h2.2⟩
        rcases (insD_mem x z ys).mp hz with e | e
        · omega
        · exact h2.1 z e
theorem dsort_mem (k : Int) : ∀ l : List Int, k ∈ dsort l ↔ k ∈ l
  | [] => by simp [dsort]
  | x :: xs => by
    unfold dsort
    rw [insD_mem, dsort_mem k xs, List.mem_cons]
theorem dsort_lt : ∀ l : List Int, (dsort l).Pairwise (· < ·)
  | [] => by simp [dsort]
  | x :: xs => insD_lt x _ (dsort_lt xs)
theorem lt_uniq : ∀ (l l' : List Int), l.Pairwise (· < ·) → l'.Pairwise (· < ·) → (∀ k, k ∈ l ↔ k ∈ l') → l = l'
  | [], [], _, _, _ => rfl
  | [], y :: ys, _, _, h => by have := (h y).mpr (by simp); simp at this
  | x :: xs, [], _, _, h => by have := (h x).mp (by simp); simp at this
  | x :: xs, y :: ys, p, q, h => by
    have p2 := List.pairwise_cons.mp p
    have q2 := List.pairwise_cons.mp q
    have e : x = y := by
      rcases List.mem_cons.mp ((h x).mp (by simp)) with e | e
      · exact e
      · rcases List.mem_cons.mp ((h y).mpr (by simp)) with e2 | e2
        · exact e2.symm
        · have := q2.1 x e
          have := p2.1 y e2
          omega
    subst e
    rw [lt_uniq xs ys p2.2 q2.2 fun k => ?_]
    constructor
    · intro hk
      rcases List.mem_cons.mp ((h k).mp (List.mem_cons_of_mem _ hk)) with e | e
      · have := p2.1 k hk; omega
      · exact e
    · intro hk
      rcases List.mem_cons.mp ((h k).mpr (List.mem_cons_of_mem _ hk)) with e | e
      · have := q2.1 k hk; omega
      · exact e
section
variable {X : Cx} {cl : List Value} {Wx : WX} {p p2 pos q : Pos} {a : Expr} {el : En → Hw → Res (List W × Gu × Bool)}
def tSrtD (K : PySem.W.Frag) (ta : TE) : TE := fun σ H Q => ta σ H fun x H1 => ∃ (l : Addr) (ns : List Int), x = .ref l ∧ SqT K H1 l (ns.map V.int) ∧ ns.length < 64 ∧
  ∀ (ns' : List Int) (p : Addr), ns'.Pairwise (· < ·) → (∀ k : Int, k ∈ ns' ↔ k ∈ ns) → H1 p = none → Q (.ref p) (upd H1 p (.lst (ns'.map V.int)))
theorem pe_srtD {ta : TE} (hc : X.calm = true) (hg : Gl X "sorted") (hm : X.mg "sorted" = none) (hg2 : Gl X "set") (hm2 : X.mg "set" = none) (ha : PE X a ta) (na : starEach [a] X.env = (false, eval a X.env) :: starEach [] X.env) :
    PE X (.Call (.Name "sorted" p) [.Call (.Name "set" p2) [a] [] q] [] pos) (tSrtD X.K ta) := by
  refine ⟨fun pins s σ H Q I h => ?_⟩
  refine Call_ (ld_blt (u := .builtin "sorted") I hg hm (by first | rfl | decide +kernel) ?_ (by decide) (by decide))
  refine PyProof.Rows.callWith_builtin1 (PyProof.Rows.args_cons ?_ rfl) rfl rfl
  refine Call_ (ld_blt I hg2 hm2 PyProof.Rows.boot_set ?_)
  refine PyProof.Rows.callWith_type1 (PyProof.Rows.args_cons (thn (ha.run pins s σ H _ I h) fun v s1 ⟨x, H1, I1, r1, q1⟩ => PyProof.Rows.args_nil ?_) na) na rfl
  obtain ⟨l, ns, rfl, hq, h1, q1⟩ := q1
  cases r1
  obtain ⟨its, rv, pt, hz⟩ := I1.tuple hq
  have hi : IntsAre its.toArray.toList ns := ints_of_vals rv
  refine call_set_tupI ns (I1.ok.hd hc) (show s1.heap.IsTuple l its.toArray from pt) hi (by unfold scanBound; omega) fun h' tk c R1 hcn k => ?_
  refine PyProof.Rows.args_nil ?_
  have I2 : Inv X pins σ H1 { s1 with heap := h', toks := tk } := I1.kept fun b o e => k b o e
  refine sorted_set R1 (I2.ok.hd hc) (by omega) fun s' p' out c' ns' k' g' o' hp hgp hi' hs hm' hl => ?_
  have hlen : (ns'.map V.int).length ≤ sizeLine := by rw [List.length_map, hl, sizeLine_eq]; omega
  have hn : H1 p' = none := I2.hok.fresh hp
  have J : Inv X pins σ (upd H1 p' (.lst (ns'.map V.int))) { s1 with heap := s'.heap, gens := s'.gens, drawn := s'.drawn, toks := s'.toks } :=
    Inv.call (s := { s1 with heap := h', toks := tk }) (ch := []) I2 (Un.laid k' hp hn) (I2.hok.laid k' hp ⟨hlen, out.toList, c', vals_of_ints hi', hgp⟩) (by rw [g']; exact I2.bare) (fun _ z => nomatch z)
  have e : s' = { s1 with heap := s'.heap, gens := s'.gens, drawn := s'.drawn, toks := s'.toks } := by
    cases s'
    cases s1
    cases o'
    rfl
  rw [e]
  exact ⟨.ref p', _, J, rfl, q1 ns' p' hs (fun k => by rw [hm', decide_eq_true_eq]) hn⟩
theorem srcT {G : GX} {m : List Addr} {H : Hp} {h : Hw} {q : List W × Gu × Bool} {v : V} {ns : List Int} (s : Src G.K H m q v) (b : ¬ q.2.2 = false) (hn : toInts q.1 = some ns) : ∃ a, v = .ref a ∧ SqT G.K H a (ns.map V.int) := by
  obtain ⟨a, vs, rfl, r, s⟩ := s
  have e := ints_of (G := G) r hn
  subst e
  rcases s with ⟨s, _⟩ | ⟨k, _⟩
  · exact ⟨a, rfl, s.sq⟩
  · exact absurd k b
theorem s_srtD (hc : X.calm = true) (hg : Gl X "sorted") (hm : X.mg "sorted" = none) (hg2 : Gl X "set") (hm2 : X.mg "set" = none) (ha : PE X a (tL (gx X cl) Wx el)) (he : starEach [a] X.env = [(false, eval a X.env)]) :
    PE X (.Call (.Name "sorted" p) [.Call (.Name "set" p2) [a] [] q] [] pos) (tE (gx X cl) Wx fun ρ h => (el ρ h).bind fun q h => srtDf q.1 q.2.2 h) := by
  refine conseq (pe_srtD hc hg hm hg2 hm2 ha he) fun σ H Q z => tR.bind z fun m ρ q v h H1 rs rh rr z1 => ?_
  have z1 : RV (gx X cl) (Rep (gx X cl).K) m H1 (if q.2.2 = false then .err else match toInts q.1 with
    | some ns => if ns.length < 64 then .ok (.ref h.length) (h ++ [.lst ((dsort ns).map .int)]) else .err
    | none => .err) Q _ := z1
  split at z1
  · exact z1.no
  · rename_i hb
    split at z1
    · rename_i ns hn
      obtain ⟨a, rfl, s⟩ := srcT (G := gx X cl) (h := h) rr hb hn
      split at z1
      · rename_i hl
        exact ⟨a, ns, rfl, s, hl, fun ns' q' p1 p2 hq => by
          rw [lt_uniq ns' (dsort ns) p1 (dsort_lt ns) fun k => (p2 k).trans (dsort_mem k ns).symm]
          exact z1.newL rh (repL_ints _) q' hq⟩
      · exact z1.no
    · exact z1.no
end

/-! ### constants of the module -/
mutual
theorem W.eqb_eq : ∀ {a b : W}, W.eqb a b = true → a = b
  | .non, .non, _ => rfl
  | .bl a, .bl b, h => by unfold W.eqb at h; rw [of_decide_eq_true h]
  | .int a, .int b, h => by unfold W.eqb at h; rw [of_decide_eq_true h]
  | .str a, .str b, h => by unfold W.eqb at h; rw [of_decide_eq_true h]
  | .tup xs, .tup ys, h => by unfold W.eqb at h; rw [W.eqbs_eq h]
  | .fl _, _, h => by simp [W.eqb] at h
  | .ref _, _, h => by simp [W.eqb] at h
  | .rg _ _, _, h => by simp [W.eqb] at h
  | .non, .bl _, h => by simp [W.eqb] at h
  | .non, .int _, h => by simp [W.eqb] at h
  | .non, .str _, h => by simp [W.eqb] at h
  | .non, .tup _, h => by simp [W.eqb] at h
  | .non, .fl _, h => by simp [W.eqb] at h
  | .non, .ref _, h => by simp [W.eqb] at h
  | .non, .rg _ _, h => by simp [W.eqb] at h
  | .bl _, .non, h => by simp [W.eqb] at h
  | .bl _, .int _, h => by simp [W.eqb] at h
  | .bl _, .str _, h => by simp [W.eqb] at h
  | .bl _, .tup _, h => by simp [W.eqb] at h
  | .bl _, .fl _, h => by simp [W.eqb] at h
  | .bl _, .ref _, h => by simp [W.eqb] at h
  | .bl _, .rg _ _, h => by simp [W.eqb] at h
  | .int _, .non, h => by simp [W.eqb] at h
  | .int _, .bl _, h => by simp [W.eqb] at h
  | .int _, .str _, h => by simp [W.eqb] at h
  | .int _, .tup _, h => by simp [W.eqb] at h
  | .int _, .fl _, h => by simp [W.eqb] at h
  | .int _, .ref _, h => by simp [W.eqb] at h
  | .int _, .rg _ _, h => by simp [W.eqb] at h
  | .str _, .non, h => by simp [W.eqb] at h
  | .str _, .bl _, h => by simp [W.eqb] at h
  | .str _, .int _, h => by simp [W.eqb] at h
  | .str _, .tup _, h => by simp [W.eqb] at h
  | .str _, .fl _, h => by simp [W.eqb] at h
  | .str _, .ref _, h => by simp [W.eqb] at h
  | .str _, .rg _ _, h => by simp [W.eqb] at h
  | .tup _, .non, h => by simp [W.eqb] at h
  | .tup _, .bl _, h => by simp [W.eqb] at h
  | .tup _, .int _, h => by simp [W.eqb] at h
  | .tup _, .str _, h => by simp [W.eqb] at h
  | .tup _, .fl _, h => by simp [W.eqb] at h
  | .tup _, .ref _, h => by simp [W.eqb] at h
  | .tup _, .rg _ _, h => by simp [W.eqb] at h
theorem W.eqbs_eq : ∀ {a b : List W}, W.eqbs a b = true → a = b
  | [], [], _ => rfl
  | x :: xs, y :: ys, h => by
    unfold W.eqbs at h
    simp only [Bool.and_eq_true] at h
    rw [W.eqb_eq h.1, W.eqbs_eq h.2]
  | [], _ :: _, h => by simp [W.eqbs] at h
  | _ :: _, [], h => by simp [W.eqbs] at h
end
/-- a value that stands for good -/
def conB : Nat → PySem.W.Frag → W → Value → Bool
  | 0, _, _, _ => false
  | n + 1, K, w, v => match w, v with
    | .non, .none => true
    | .bl a, .bool b => decide (a = b)
    | .int a, .int b _ => decide (a = b)
    | .str a, .str b _ => decide (a = b)
    | .tup xs, .ref p => match K.lookup p with
      | some o => match o.data with
        | .seq its _ => (o.cls == .type "tuple") && decide (its.size ≤ sizeLine) && decide (xs.length = its.size) && (xs.zip its.toList).all fun z => conB n K z.1 z.2
        | _ => false
      | none => false
    | _, _ => false
/-- what it stands for, whatever the heap -/
def ConV (K : PySem.W.Frag) (w : W) (v : Value) : Prop := ∃ u, RelV u v ∧ ∀ H m, Rep K H m w u
theorem conL {K : PySem.W.Frag} : ∀ {ws : List W} {its : List Value}, ws.length = its.length → (∀ z ∈ ws.zip its, ConV K z.1 z.2) → ∃ us, Vals us its ∧ ∀ H m, RepL K H m ws us
  | [], [], _, _ => ⟨[], .nil, fun _ _ => .nil⟩
  | w :: ws, v :: its, h, c => by
    obtain ⟨u, r1, c1⟩ := c (w, v) (by simp)
    obtain ⟨us, r2, c2⟩ := conL (ws := ws) (its := its) (by simpa using h) fun z hz => c z (by simp [hz])
    exact ⟨u :: us, .cons r1 r2, fun H m => .cons (c1 H m) (c2 H m)⟩
  | [], _ :: _, h, _ => by simp at h
  | _ :: _, [], h, _ => by simp at h
theorem conB_ok {K : PySem.W.Frag} : ∀ (n : Nat) (w : W) (v : Value), conB n K w v = true → ConV K w v
  | 0, _, _, h => by simp [conB] at h
  | n + 1, w, v, h => by
    unfold conB at h
    split at h
    · exact ⟨.non, rfl, fun H m => by unfold Rep; rfl⟩
    · rename_i a b
      rw [of_decide_eq_true h]
      exact ⟨.bl b, rfl, fun H m => by unfold Rep; rfl⟩
    · rename_i a b t
      rw [of_decide_eq_true h]
      exact ⟨.int b, ⟨t, rfl⟩, fun H m => by unfold Rep; rfl⟩
    · rename_i a b t
      rw [of_decide_eq_true h]
      exact ⟨.str b, ⟨t, rfl⟩, fun H m => by unfold Rep; rfl⟩
    · rename_i xs p
      split at h
      · rename_i o ho
        split at h
        · rename_i its k hd
          simp only [Bool.and_eq_true, decide_eq_true_eq, List.all_eq_true, beq_iff_eq] at h
          obtain ⟨⟨⟨h1, h2⟩, h3⟩, h4⟩ := h
          obtain ⟨us, r, c⟩ := conL (K := K) (ws := xs) (its := its.toList) (by rw [h3, Array.length_toList]) fun z hz => conB_ok n z.1 z.2 (h4 z hz)
          exact ⟨.ref p, rfl, fun H m => by unfold Rep; exact ⟨p, us, rfl, .inr ⟨o, its, k, ho, h1, hd, h2, r⟩, c H m⟩⟩
        · cases h
      · cases h
    · cases h
section
variable {X : Cx} {cl : List Value} {Wx : WX} {pos : Pos}
theorem s_glc {x : Str} {w : W} {v : Value} (hg : Gl X x) (hm : X.mg x = some v) (c : ConV X.K w v) (hd : (x == ("__debug__" : Str)) = false) : PE X (.Name x pos) (tE (gx X cl) Wx fun _ h => .ok w h) := by
  obtain ⟨u, r, c⟩ := c
  refine conseq (pe_glob hg hm r hd) fun σ H Q z => ?_
  obtain ⟨m, ρ, h, rs, rh, z⟩ := z
  exact z.here rh (c H m)
end
end Ev

set_option Elab.async false
set_option linter.all false
set_option maxRecDepth 100000
set_option maxHeartbeats 4000000
/-! EvI: comprehensions with two for. -/
namespace Ev
open PySem PySem.Spec PyProof.Rows L2
/-- what is walked, whatever a list in the air becomes -/
def RI2 (G : GX) : Hp → List Addr → List W × Gu → It → Prop := fun H m q J => ∀ D ys zs, H D = some (.lst ys) → D ∉ m → ItOk G m (upd H D (.lst zs)) J q
abbrev tI2 (G : GX) (Wx : WX) (ev : En → Hw → Res (List W × Gu)) : TI := tR G Wx (RI2 G) ev
theorem upd_back {H : Hp} {D : Addr} {o : HO} (h : H D = some o) : upd H D o = H := by
  funext b
  by_cases e : b = D
  · rw [e, upd_same, h]
  · rw [upd_ne e]
theorem upd_two {H : Hp} {D : Addr} {o o' : HO} : upd (upd H D o) D o' = upd H D o' := by
  funext b
  by_cases e : b = D
  · rw [e, upd_same, upd_same]
  · rw [upd_ne e, upd_ne e, upd_ne e]
theorem Nx.updD {m m' : List Addr} {H H' : Hp} {D : Addr} {u o : HO} (x : Nx m H m' H') (hD : H D = some u) : Nx m (upd H D o) m' (upd H' D o) := by
  refine ⟨x.pre, fun a v e hm => ?_, fun a ha hm => ?_⟩
  · by_cases h : a = D
    · subst h
      rw [upd_same] at e ⊢; exact e
    · rw [upd_ne h] at e ⊢; exact x.fr a v e hm
  · have z := x.new a ha hm
    have h : a ≠ D := fun y => by rw [y, hD] at z; cases z
    rw [upd_ne h]; exact z
section
variable {G : GX} {Wx : WX} {σ : L2.St} {H : Hp} {Q : VK}
theorem tLc2_of {α : Type} {R' : Hp → List Addr → α → V → Prop} {ei ei1 : En → Hw → Res (List W × Gu)} {et et1 : En → Hw → Res Bool} {ee : En → Hw → Res W} {ig ig1 : IG} {own own1 : List Nat} {kk : List W → Hw → Res α}
    (hsl : ∀ i ∈ slots ig, i ∈ own) (hsl1 : ∀ i ∈ slots ig1, i ∈ own1)
    (z : tR G Wx R' (fun ρ h => (ei ρ h).bind fun q h => (compM ig q.2 et (fun ρ h acc => (ei1 ρ h).bind fun q2 h => compL ig1 q2.2 et1 ee own1 ρ q2.1 h acc) own ρ q.1 h []).bind kk) σ H Q)
    (hk : ∀ m0 H0 m1 H1 h1 D ys vs, Nx m0 H0 m1 H1 → H0 D = none → RelH G.K m1 H1 h1 → Air H1 m1 D vs → RepL G.K H1 m1 ys vs → RV G R' m0 H0 (kk ys h1) Q (fun c d H' => Wx c d σ H') → Q (.ref D) H1) :
    tLc2 (tI G Wx ei) (gG G.K ig) (tT G noX et) (tI2 G noX ei1) (gG G.K ig1) (tT G noX et1) (tE G noX ee) own own1 σ H Q :=
  tR.bind z fun m0 ρ q J h0 H0 rs rh it z1 => fun D hD => by
    generalize hin : (fun ρ h acc => (ei1 ρ h).bind fun q2 h => compL ig1 q2.2 et1 ee own1 ρ q2.1 h acc : En → Hw → List W → Res (List W)) = inner at z1
    have ne : compM ig q.2 et inner own ρ q.1 h0 [] ≠ .err := fun e => by rw [e] at z1; exact z1.no
    generalize hfull : compM ig q.2 et inner own ρ q.1 h0 [] = full at z1 ne
    refine ⟨fun i mm H => ∃ m1 h1 accV accW, Nx m0 H0 m1 H ∧ RelH G.K m1 H h1 ∧ Air H m1 D accV ∧ RepL G.K H m1 accW accV ∧ mm = q.1.length - i ∧ i ≤ q.1.length ∧ compM ig q.2 et inner own ρ (q.1.drop i) h1 accW = full,
      ⟨q.1.length, m0, h0, [], [], Nx.airNew .refl hD, rh.laid hD, ⟨upd_same, rh.free hD⟩, .nil, by simp, Nat.zero_le _, by simpa using hfull⟩, ?_⟩
    rintro i mm H1 ⟨m1, h1, accV, accW, n1, rh1, air, ra, rfl, hi, hc⟩
    obtain hlt | heq := Nat.lt_or_eq_of_le hi
    · -- a turn
      have hd : q.1.drop i = q.1[i] :: q.1.drop (i + 1) := List.drop_eq_getElem_cons hlt
      rw [hd] at hc
      unfold compM at hc
      obtain ⟨gu, hc⟩ := guard_ok hc ne
      obtain ⟨go, yl⟩ := (it i m1 H1 h1 n1 rh1 gu).1 q.1[i] (List.getElem?_eq_getElem hlt)
      refine .inr ⟨go, fun H' => ∃ m1 h1 accV accW, Nx m0 H0 m1 H' ∧ RelH G.K m1 H' h1 ∧ Air H' m1 D accV ∧ RepL G.K H' m1 accW accV ∧ compM ig q.2 et inner own ρ (q.1.drop (i + 1)) h1 accW = full, fun H' ⟨m2, h2, av, aw, a1, a2, a3, a4, a5⟩ => ⟨q.1.length - (i + 1), by omega, m2, h2, av, aw, a1, a2, a3, a4, rfl, hlt, a5⟩, fun x H2 y => ?_⟩
      obtain ⟨n2, rh2, rx⟩ := yl x H2 y
      have n02 := n1.trans n2
      split at hc
      · exact absurd hc.symm ne
      · rename_i ρ' ea
        refine gG_ok (G := G) (m := m1) ig ((rs.mono n02).wipe own) rx ea fun σ2 rs2 wi => ⟨?_, ?_⟩
        · rw [wi own hsl, wipe_wipe]
        · refine ⟨m1, ρ', h1, rs2, rh2, ?_⟩
          split at hc
          · rename_i h3 et1'
            rw [et1']
            intro m3 H3 b n3 rh3 e3
            rw [show b = true from e3]
            refine iteT ⟨m3, ρ', h3, rs2.mono n3, rh3, ?_⟩
            split at hc
            · rename_i accE hE hi1
              have n13 := n2.trans n3
              have air3 := air.mono n13
              have ra3 := ra.mono n13
              rw [← hin] at hi1
              dsimp only at hi1
              cases e1 : ei1 ρ' h3 with
              | ok q1 h4 =>
                rw [e1] at hi1
                simp only [Res.bind_ok] at hi1
                intro m4 H4 J1 n4 rh4 it1
                have ne1 : (Res.ok accE hE : Res (List W)) ≠ .err := fun z => by cases z
                have n14 := n13.trans n4
                refine ⟨fun j kk H => ∃ m5 h5 accV accW, Nx m4 (upd H4 D (.lst accV)) m5 H ∧ RelH G.K m5 H h5 ∧ Air H m5 D accV ∧ RepL G.K H m5 accW accV ∧ kk = q1.1.length - j ∧ j ≤ q1.1.length ∧ compL ig1 q1.2 et1 ee own1 ρ' (q1.1.drop j) h5 accW = .ok accE hE,
                  ⟨q1.1.length, m4, h4, accV, accW, by rw [upd_back (air3.mono n4).1]; exact .refl, rh4, air3.mono n4, ra3.mono n4, by simp, Nat.zero_le _, by simpa using hi1⟩, ?_⟩
                rintro j kk2 H5 ⟨m5, h5, accV5, accW5, n5, rh5, air5, ra5, rfl, hj, hc5⟩
                obtain hlt5 | heq5 := Nat.lt_or_eq_of_le hj
                · have hd5 : q1.1.drop j = q1.1[j] :: q1.1.drop (j + 1) := List.drop_eq_getElem_cons hlt5
                  rw [hd5] at hc5
                  unfold compL at hc5
                  obtain ⟨gu5, hc5⟩ := guard_ok hc5 ne1
                  obtain ⟨go5, yl5⟩ := (it1 D accV accV5 (air3.mono n4).1 (air3.mono n4).2 j m5 H5 h5 n5 rh5 gu5).1 q1.1[j] (List.getElem?_eq_getElem hlt5)
                  refine .inr ⟨go5, fun H' => ∃ m5 h5 accV accW, Nx m4 (upd H4 D (.lst accV)) m5 H' ∧ RelH G.K m5 H' h5 ∧ Air H' m5 D accV ∧ RepL G.K H' m5 accW accV ∧ compL ig1 q1.2 et1 ee own1 ρ' (q1.1.drop (j + 1)) h5 accW = .ok accE hE, fun H' ⟨m2, h2, av, aw, a1, a2, a3, a4, a5⟩ => ⟨q1.1.length - (j + 1), by omega, m2, h2, av, aw, a1, a2, a3, a4, rfl, hlt5, a5⟩, fun x H6 y => ?_⟩
                  obtain ⟨n6, rh6, rx6⟩ := yl5 x H6 y
                  split at hc5
                  · exact absurd hc5.symm ne1
                  · rename_i ρ2 ea2
                    have rs5 : RepS G.K H6 m5 ρ' σ2 := (((rs2.mono n3).mono n4).air (air3.mono n4).1).mono (n5.trans n6)
                    refine gG_ok (G := G) (m := m5) ig1 (rs5.wipe own1) rx6 ea2 fun σ3 rs3 wi3 => ⟨?_, ?_⟩
                    · rw [wi3 own1 hsl1, wipe_wipe]
                    · refine ⟨m5, ρ2, h5, rs3, rh6, ?_⟩
                      split at hc5
                      · rename_i h7 et7
                        rw [et7]
                        intro m7 H7 b7 n7 rh7 e7
                        rw [show b7 = true from e7]
                        refine iteT ⟨m7, ρ2, h7, rs3.mono n7, rh7, ?_⟩
                        split at hc5
                        · rename_i yw h8 ee8
                          rw [ee8]
                          intro m8 H8 yv n8 rh8 ry
                          split at hc5
                          · rename_i hl
                            have n58 := (n6.trans n7).trans n8
                            have air8 := air5.mono n58
                            refine ⟨accV5, air8.1, by rw [← ra5.len, ← lim_eq]; exact hl, m8, h8, accV5 ++ [yv], accW5 ++ [yw], by have z := (n5.trans n58).updD (o := .lst (accV5 ++ [yv])) upd_same; rw [upd_two] at z; exact z, rh8.air air8.1 air8.2, ⟨upd_same, air8.2⟩, (RepL.air air8.1 ((ra5.mono n58).append (.cons ry .nil))), hc5⟩
                          · exact absurd hc5.symm ne1
                        · exact absurd hc5.symm ne1
                      · rename_i h7 et7
                        rw [et7]
                        intro m7 H7 b7 n7 rh7 e7
                        rw [show b7 = false from e7]
                        have n57 := n6.trans n7
                        exact iteF ⟨m7, h7, accV5, accW5, n5.trans n57, rh7, air5.mono n57, ra5.mono n57, hc5⟩
                      · exact absurd hc5.symm ne1
                · rw [heq5, List.drop_length] at hc5
                  unfold compL at hc5
                  obtain ⟨gu5, hc5⟩ := guard_ok hc5 ne1
                  cases hc5
                  exact .inl ⟨(it1 D accV accV5 (air3.mono n4).1 (air3.mono n4).2 j m5 H5 _ n5 rh5 gu5).2 (Nat.le_of_eq heq5.symm), m5, _, accV5, _, ((n1.trans n14).airNew hD).trans n5, rh5, air5, ra5, hc⟩
              | exc x h4 => rw [e1] at hi1; cases hi1
              | err => rw [e1] at hi1; cases hi1
            · exact absurd hc.symm ne
          · rename_i h3 et1'
            rw [et1']
            intro m3 H3 b n3 rh3 e3
            rw [show b = false from e3]
            have n13 := n2.trans n3
            exact iteF ⟨m3, h3, accV, accW, n1.trans n13, rh3, air.mono n13, ra.mono n13, hc⟩
          · exact absurd hc.symm ne
    · -- the end
      rw [heq, List.drop_length] at hc
      unfold compM at hc
      obtain ⟨gu, hc⟩ := guard_ok hc ne
      subst hc
      exact .inl ⟨(it i m1 H1 h1 n1 rh1 gu).2 (Nat.le_of_eq heq.symm), hk m0 H0 m1 H1 h1 D accW accV n1 hD rh1 air ra z1⟩
/-- as items -/
theorem tLc2_items {ei ei1 : En → Hw → Res (List W × Gu)} {et et1 : En → Hw → Res Bool} {ee : En → Hw → Res W} {ig ig1 : IG} {own own1 : List Nat} (hsl : ∀ i ∈ slots ig, i ∈ own) (hsl1 : ∀ i ∈ slots ig1, i ∈ own1)
    (z : tL G Wx (fun ρ h => (ei ρ h).bind fun q h => (compM ig q.2 et (fun ρ h acc => (ei1 ρ h).bind fun q2 h => compL ig1 q2.2 et1 ee own1 ρ q2.1 h acc) own ρ q.1 h []).bind fun ys h => .ok (ys, [], false) h) σ H Q) :
    tLc2 (tI G Wx ei) (gG G.K ig) (tT G noX et) (tI2 G noX ei1) (gG G.K ig1) (tT G noX et1) (tE G noX ee) own own1 σ H Q :=
  tLc2_of hsl hsl1 z fun m0 H0 m1 H1 h1 D ys vs n hD rh air r z1 => z1 m1 H1 _ n rh ⟨D, vs, rfl, r, .inr ⟨rfl, .inr (.inl air)⟩⟩
/-- as a new list -/
theorem tLc2_list {ei ei1 : En → Hw → Res (List W × Gu)} {et et1 : En → Hw → Res Bool} {ee : En → Hw → Res W} {ig ig1 : IG} {own own1 : List Nat} (hsl : ∀ i ∈ slots ig, i ∈ own) (hsl1 : ∀ i ∈ slots ig1, i ∈ own1)
    (z : tE G Wx (fun ρ h => ((ei ρ h).bind fun q h => (compM ig q.2 et (fun ρ h acc => (ei1 ρ h).bind fun q2 h => compL ig1 q2.2 et1 ee own1 ρ q2.1 h acc) own ρ q.1 h []).bind fun ys h => Res.ok (ys, ([] : Gu), false) h).bind fun q h => .ok (.ref h.length) (h ++ [.lst q.1])) σ H Q) :
    tLc2 (tI G Wx ei) (gG G.K ig) (tT G noX et) (tI2 G noX ei1) (gG G.K ig1) (tT G noX et1) (tE G noX ee) own own1 σ H Q := by
  have z' : tE G Wx (fun ρ h => (ei ρ h).bind fun q h => (compM ig q.2 et (fun ρ h acc => (ei1 ρ h).bind fun q2 h => compL ig1 q2.2 et1 ee own1 ρ q2.1 h acc) own ρ q.1 h []).bind fun ys h => .ok (.ref h.length) (h ++ [.lst ys])) σ H Q := by
    obtain ⟨m, ρ, h, rs, rh, z⟩ := z
    refine ⟨m, ρ, h, rs, rh, ?_⟩
    simp only [Res.bind_assoc, Res.bind_ok] at z
    simp only [Res.bind_assoc]
    exact z
  refine tLc2_of hsl hsl1 z' fun m0 H0 m1 H1 h1 D ys vs n hD rh air r z1 => ?_
  obtain ⟨rh2, ad⟩ := rh.adopt air.1 air.2 r
  refine z1 (m1 ++ [D]) H1 _ ⟨?_, n.fr, fun a ha hm => ?_⟩ rh2 (.ref' (by rw [← rh.len, List.getElem?_append_right (Nat.le_refl _)]; simp))
  · obtain ⟨t, rfl⟩ := n.pre
    exact ⟨t ++ [D], by rw [List.append_assoc]⟩
  · rcases List.mem_append.mp ha with ha | ha
    · exact n.new a ha hm
    · rw [List.mem_singleton.mp ha]; exact hD
end
section
variable {X : Cx} {cl : List Value} {Wx : WX} {p pos : Pos} {tg a b e : Expr} {ea eb ee : En → Hw → Res W}
theorem s_rng1' (hg : Gl X "range") (hm : X.mg "range" = none) (ha : PE X a (tE (gx X cl) Wx ea)) (hs : starEach [a] X.env = [(false, eval a X.env)]) :
    PI X tg (.Call (.Name "range" p) [a] [] pos) (tI2 (gx X cl) Wx fun ρ h => (ea ρ h).bind fun x h => match x with
      | .int j => if -(2 ^ 62) ≤ j ∧ j < 2 ^ 62 then .ok (rng 0 j.toNat, []) h else .err
      | _ => .err) :=
  conseqI (pi_range1 hg hm (pa_cons ha pa_nil hs) hs) fun σ H R z => tR.bind z fun m ρ w v h H1 rs rh r z1 => by
    try dsimp only at z1
    split at z1
    · rename_i j
      split at z1
      · rename_i hj
        rw [r.int_of]
        exact ⟨j, rfl, hj.1, hj.2, z1.here rh fun _ _ _ _ _ => itr_ok⟩
      · exact z1.no
    · exact z1.no
theorem s_rng2' (hg : Gl X "range") (hm : X.mg "range" = none) (ha : PE X a (tE (gx X cl) Wx ea)) (hb : PE X b (tE (gx X cl) Wx eb)) (hs : starEach [a, b] X.env = [(false, eval a X.env), (false, eval b X.env)]) (hs2 : starEach [b] X.env = [(false, eval b X.env)]) :
    PI X tg (.Call (.Name "range" p) [a, b] [] pos) (tI2 (gx X cl) Wx fun ρ h => (ea ρ h).bind fun x h => (eb ρ h).bind fun y h => match x, y with
      | .int i, .int j => if -(2 ^ 62) ≤ i ∧ i < 2 ^ 62 ∧ -(2 ^ 62) ≤ j ∧ j < 2 ^ 62 then .ok (rng i (j - i).toNat, []) h else .err
      | _, _ => .err) :=
  conseqI (pi_range2 hg hm (pa_cons ha (pa_cons hb pa_nil hs2) (by rw [hs, hs2])) hs hs2) fun σ H R z => tR.bind z fun m ρ w v h H1 rs rh r z1 => tR.next rs rh z1 fun m2 w2 v2 h2 H2 n rs2 rh2 r2 z2 => by
    try dsimp only at z2
    split at z2
    · rename_i i j
      split at z2
      · rename_i hj
        rw [(r.mono n).int_of, r2.int_of]
        exact ⟨i, j, rfl, hj, z2.here rh2 fun _ _ _ _ _ => itr_ok⟩
      · exact z2.no
    · exact z2.no
theorem s_iv' (he : PE X e (tE (gx X cl) Wx ee)) : PI X tg e (tI2 (gx X cl) Wx fun ρ h => ((ee ρ h).bind fun x h => match seqOf h x with | some xs => Res.ok (xs, guOf x xs, isTup x) h | none => .err).bind fun q h => .ok (q.1, q.2.1) h) :=
  conseqI (PI.or (pi_list he) (pi_tup he)) fun σ H R ⟨m, ρ, h, rs, rh, z⟩ => by
    try dsimp only at z
    cases e1 : ee ρ h with
    | ok x h' =>
      rw [e1] at z
      simp only [Res.bind_ok] at z
      cases e2 : seqOf h' x with
      | none => rw [e2] at z; exact z.no
      | some xs =>
        rw [e2] at z
        simp only [Res.bind_ok] at z
        cases hk : isTup x with
        | true =>
          refine .inr ⟨m, ρ, h, rs, rh, ?_⟩
          rw [e1]
          intro m' H' v n rh' r
          have s := src_val (G := gx X cl) rh' r e2
          obtain ⟨a, rfl, ⟨_, at1⟩ | ⟨k, _⟩⟩ := src_at (G := gx X cl) s
          · obtain ⟨vs, sq, _⟩ := at1 m' H' h' .refl rh'
            refine ⟨a, rfl, ⟨vs, sq⟩, z m' H' _ n rh' fun D ys zs hD hm => ?_⟩
            have s2 := src_val (G := gx X cl) (rh'.air (zs := zs) hD hm) (r.air hD) e2
            obtain ⟨a', e', ⟨_, at2⟩ | ⟨k, _⟩⟩ := src_at (G := gx X cl) s2
            · cases e'
              exact itt_ok at2
            · rw [show (xs, guOf x xs, isTup x).2.2 = isTup x from rfl, hk] at k; cases k
          · rw [show (xs, guOf x xs, isTup x).2.2 = isTup x from rfl, hk] at k; cases k
        | false =>
          refine .inl ⟨m, ρ, h, rs, rh, ?_⟩
          rw [e1]
          intro m' H' v n rh' r
          have s := src_val (G := gx X cl) rh' r e2
          obtain ⟨a, vs, rfl, sq⟩ := src_lst s hk
          refine ⟨a, rfl, ⟨vs, sq⟩, z m' H' _ n rh' fun D ys zs hD hm => ?_⟩
          have s2 := src_val (G := gx X cl) (rh'.air (zs := zs) hD hm) (r.air hD) e2
          obtain ⟨a', e', ⟨k, _⟩ | ⟨_, at2⟩⟩ := src_at (G := gx X cl) s2
          · rw [show (xs, guOf x xs, isTup x).2.2 = isTup x from rfl, hk] at k; cases k
          · cases e'
            exact itl_ok at2
    | exc x h' =>
      rw [e1] at z
      refine .inl ⟨m, ρ, h, rs, rh, ?_⟩
      rw [e1]; exact z
    | err => rw [e1] at z; exact z.no
/-- a comprehension with two for as a value, as items -/
theorem s_lc2 {elt tg iter tg1 iter1 : Expr} {ifs ifs1 : List Expr} {scope : Scope} {own : List (Str × Nat)} {own1 : List Nat} {ei ei1 : En → Hw → Res (List W × Gu)} {et et1 : En → Hw → Res Bool} {ig ig1 : IG}
    (hc : X.calm = true) (hN : X.N.Nodup) (hi : PI X tg iter (tI (gx X cl) Wx ei)) (ok : BlkOk X.N X.env.scope scope own) (hv : ∀ i ∈ own1, i ∈ own.map (·.2))
    (hb : ∀ (s : Shared) (H : Hp) (C : Addr) (cs : List (Str × Addr)) (fp : List Addr), PG (X.blk s H scope (compEnvC scope cs C X.env) fp) tg (gG X.K ig) ∧ PTs (X.blk s H scope (compEnvC scope cs C X.env) fp) ifs (tT (gx X cl) noX et) ∧
      PI (X.blk s H scope (compEnvC scope cs C X.env) fp) tg1 iter1 (tI2 (gx X cl) noX ei1) ∧ PG (X.blk s H scope (compEnvC scope cs C X.env) fp) tg1 (gG X.K ig1) ∧ PTs (X.blk s H scope (compEnvC scope cs C X.env) fp) ifs1 (tT (gx X cl) noX et1) ∧ PE (X.blk s H scope (compEnvC scope cs C X.env) fp) elt (tE (gx X cl) noX ee))
    (hs : ∀ x, foldedSetIterable iter X.env x = pure x) (hs1 : ∀ env x, foldedSetIterable iter1 env x = pure x) (hsl : ∀ i ∈ slots ig, i ∈ own.map (·.2)) (hsl1 : ∀ i ∈ slots ig1, i ∈ own1) :
    PE X (.ListComp elt [⟨tg, iter, ifs, 0⟩, ⟨tg1, iter1, ifs1, 0⟩] scope pos) (tL (gx X cl) Wx fun ρ h => (ei ρ h).bind fun q h => (compM ig q.2 et (fun ρ h acc => (ei1 ρ h).bind fun q2 h => compL ig1 q2.2 et1 ee own1 ρ q2.1 h acc) (own.map (·.2)) ρ q.1 h []).bind fun ys h => .ok (ys, [], false) h) :=
  conseq (pe_lc2 hc hN hi ok hv (fun s H C cs fp => (hb s H C cs fp).1) (fun s H C cs fp => (hb s H C cs fp).2.1) (fun s H C cs fp => (hb s H C cs fp).2.2.1) (fun s H C cs fp => (hb s H C cs fp).2.2.2.1) (fun s H C cs fp => (hb s H C cs fp).2.2.2.2.1) (fun s H C cs fp => (hb s H C cs fp).2.2.2.2.2) hs hs1) fun σ H Q z => tLc2_items hsl hsl1 z
theorem s_mkLc2 {elt tg iter tg1 iter1 : Expr} {ifs ifs1 : List Expr} {scope : Scope} {own : List (Str × Nat)} {own1 : List Nat} {ei ei1 : En → Hw → Res (List W × Gu)} {et et1 : En → Hw → Res Bool} {ig ig1 : IG}
    (hc : X.calm = true) (hN : X.N.Nodup) (hi : PI X tg iter (tI (gx X cl) Wx ei)) (ok : BlkOk X.N X.env.scope scope own) (hv : ∀ i ∈ own1, i ∈ own.map (·.2))
    (hb : ∀ (s : Shared) (H : Hp) (C : Addr) (cs : List (Str × Addr)) (fp : List Addr), PG (X.blk s H scope (compEnvC scope cs C X.env) fp) tg (gG X.K ig) ∧ PTs (X.blk s H scope (compEnvC scope cs C X.env) fp) ifs (tT (gx X cl) noX et) ∧
      PI (X.blk s H scope (compEnvC scope cs C X.env) fp) tg1 iter1 (tI2 (gx X cl) noX ei1) ∧ PG (X.blk s H scope (compEnvC scope cs C X.env) fp) tg1 (gG X.K ig1) ∧ PTs (X.blk s H scope (compEnvC scope cs C X.env) fp) ifs1 (tT (gx X cl) noX et1) ∧ PE (X.blk s H scope (compEnvC scope cs C X.env) fp) elt (tE (gx X cl) noX ee))
    (hs : ∀ x, foldedSetIterable iter X.env x = pure x) (hs1 : ∀ env x, foldedSetIterable iter1 env x = pure x) (hsl : ∀ i ∈ slots ig, i ∈ own.map (·.2)) (hsl1 : ∀ i ∈ slots ig1, i ∈ own1) :
    PE X (.ListComp elt [⟨tg, iter, ifs, 0⟩, ⟨tg1, iter1, ifs1, 0⟩] scope pos) (tE (gx X cl) Wx fun ρ h => ((ei ρ h).bind fun q h => (compM ig q.2 et (fun ρ h acc => (ei1 ρ h).bind fun q2 h => compL ig1 q2.2 et1 ee own1 ρ q2.1 h acc) (own.map (·.2)) ρ q.1 h []).bind fun ys h => Res.ok (ys, ([] : Gu), false) h).bind fun q h => .ok (.ref h.length) (h ++ [.lst q.1])) :=
  conseq (pe_lc2 hc hN hi ok hv (fun s H C cs fp => (hb s H C cs fp).1) (fun s H C cs fp => (hb s H C cs fp).2.1) (fun s H C cs fp => (hb s H C cs fp).2.2.1) (fun s H C cs fp => (hb s H C cs fp).2.2.2.1) (fun s H C cs fp => (hb s H C cs fp).2.2.2.2.1) (fun s H C cs fp => (hb s H C cs fp).2.2.2.2.2) hs hs1) fun σ H Q z => tLc2_list hsl hsl1 z
end
end Ev

set_option Elab.async false
set_option linter.all false
set_option maxRecDepth 100000
/-! Ev9: a text of the small language fits a piece of Python: the look, and what it gives. -/
namespace Ev
open PySem PySem.Spec PyProof.Rows L2

structure Cc where
  N : List Str
  sc : Scope
  fn : Str → Bool
  fns : List (Str × Nat)
  blt : List Str
  mth : List Str
  cns : List (Str × W)
def visB (sc : Scope) (x : Str) : Bool := match sc.names.lookup x with | some .local => true | some .cell => true | some .free => true | _ => false
def glB (sc : Scope) (x : Str) : Bool := match sc.names.lookup x with | some .globalImplicit => true | _ => false
def okN (x : Str) : Bool := !(x == ("__debug__" : Str)) && !(x == ("__classdict__" : Str)) && !(x == ("__name__" : Str))
def stoB (c : Cc) (x : Str) : Bool := match c.sc.names.lookup x with | some .local => true | some .cell => c.fn x | _ => false
def Cc.blk (c : Cc) (scope : Scope) : Cc := { c with sc := relS scope c.sc, fn := fun x => scope.names.lookup x == some .cell }
def ownOf (c : Cc) (scope : Scope) : List (Str × Nat) := scope.names.filterMap fun p => match p.2 with
  | .local => (c.N.idxOf? p.1).map fun i => (p.1, i)
  | .cell => (c.N.idxOf? p.1).map fun i => (p.1, i)
  | _ => none
def bltB (c : Cc) (x : Str) : Bool := c.blt.contains x && glB c.sc x && okN x

def bopB : Operator → Bop → Bool
  | .Add, .add => true | .Sub, .sub => true | .Mult, .mul => true | .FloorDiv, .fdiv => true | .Mod, .mod => true | .Pow, .pow => true
  | _, _ => false
def copB : CmpOp → Cop → Bool
  | .Eq, .eq => true | .NotEq, .ne => true | .Lt, .lt => true | .LtE, .le => true | .Gt, .gt => true | .GtE, .ge => true | .In, .inn => true | .NotIn, .nin => true
  | _, _ => false
def biB (f : Bi) (n : Nat) (x : Str) : Bool := match f with
  | .abs => x == ("abs" : Str) && n == 1
  | .toInt => x == ("int" : Str) && n == 1
  | .max2 => x == ("max" : Str) && n == 2
  | .min2 => x == ("min" : Str) && n == 2
  | .divmod => x == ("divmod" : Str) && n == 2
  | _ => false
def mthB (f : Bi) (n : Nat) (x : Str) : Bool := match f with
  | .lcm => x == ("lcm" : Str) && n == 2
  | .gcd => x == ("gcd" : Str) && n == 2
  | _ => false
def blB (f : Bl) (x : Str) : Bool := match f with
  | .sum => x == ("sum" : Str)
  | .max => x == ("max" : Str)
  | .min => x == ("min" : Str)
  | .tuple => x == ("tuple" : Str)
  | .list => x == ("list" : Str)
  | .len => x == ("len" : Str)
  | _ => false
def tyB (t : Ty) (x : Str) : Bool := match t with
  | .int => x == ("int" : Str)
  | .bool => x == ("bool" : Str)
  | .str => x == ("str" : Str)
  | .tup => x == ("tuple" : Str)
  | .lst => x == ("list" : Str)
def mtB (f : Mt) (n : Nat) (x : Str) : Bool := match f with
  | .append => x == ("append" : Str) && n == 1
  | .extend => x == ("extend" : Str) && n == 1
  | .popAt => x == ("pop" : Str) && n == 1
  | .index => x == ("index" : Str) && n == 1
  | _ => false
def notStar : Expr → Bool
  | .Starred .. => false
  | _ => true
def notSlice : Expr → Bool
  | .Slice .. => false
  | _ => true
def notSet : Expr → Bool
  | .Set .. => false
  | _ => true
def notComp : Expr → Bool
  | .ListComp .. => false
  | .SetComp .. => false
  | .DictComp .. => false
  | _ => true
def notCall0 : Expr → Bool
  | .Call _ [] _ _ => false
  | _ => true
/-- its test is its value's truth -/
def plainT : Expr → Bool
  | .UnaryOp .Not _ _ => false
  | .BoolOp .. => false
  | .IfExp .. => false
  | .Compare .. => false
  | _ => true
def isTupE : Expr → Bool
  | .Tuple .. => true
  | _ => false

mutual
def chkG : Nat → Cc → Expr → IG → Bool
  | 0, _, _, _ => false
  | n + 1, c, z0, z1 => match z0, z1 with
    | .Name x _, .var i => decide (c.N[i]? = some x) && stoB c x
    | .Tuple es _ _, .tup ts => chkGs n c es ts
    | _, _ => false
def chkGs : Nat → Cc → List Expr → List IG → Bool
  | 0, _, _, _ => false
  | n + 1, c, z0, z1 => match z0, z1 with
    | [], [] => true
    | e :: es, t :: ts => chkG n c e t && chkGs n c es ts
    | _, _ => false
end
mutual
def chkE : Nat → Cc → Expr → IE → Bool
  | 0, _, _, _ => false
  | n + 1, c, z0, z1 => match z0, z1 with
    | .Name x _, .var i => decide (c.N[i]? = some x) && visB c.sc x && okN x
    | .Constant (.int i) _ _, .cst (.int j) => decide (i = j)
    | .Constant (.bool i) _ _, .cst (.bl j) => decide (i = j)
    | .Constant (.str i) _ _, .cst (.str j) => decide (i = j)
    | .Constant .none _ _, .cst .non => true
    | .BinOp a op b _, .bin o a' b' => bopB op o && chkE n c a a' && chkE n c b b'
    | .UnaryOp .USub a _, .neg a' => chkE n c a a'
    | .UnaryOp .Not a _, .not (.val a') => chkE n c a a'
    | .BoolOp op es _, e' => chkB n c op es e'
    | .IfExp t a b _, .ite t' a' b' => chkT n c t t' && chkE n c a a' && chkE n c b b'
    | .Compare a [.Is] [.Constant .none _ _] _, .cmp .isN a' (.cst .non) => chkE n c a a'
    | .Compare a [.IsNot] [.Constant .none _ _] _, .cmp .notN a' (.cst .non) => chkE n c a a'
    | .Compare a [op] [b] _, .cmp o a' b' => copB op o && notSet b && chkE n c a a' && chkE n c b b'
    | .Tuple es _ _, .tup es' => chkEs n c es es'
    | .List es _, .lst es' => chkEs n c es es'
    | .ListComp elt gs scope pos, .mk (.comp g it ts el own) => chkL n c (.ListComp elt gs scope pos) (.comp g it ts el own)
    | .Subscript a (.Slice lo hi none _) _, .slc a' lo' hi' => chkE n c a a' && chkP n c lo lo' && chkP n c hi hi'
    | .Subscript a b _, .idx a' b' => chkE n c a a' && chkE n c b b' && notSlice b
    | .Call (.Name f _) args [] _, .call i es => decide (c.fns[i]? = some (f, args.length)) && glB c.sc f && okN f && !args.isEmpty && chkEs n c args es
    | .Call (.Name f _) [a, .Name t _] [] _, .bi (.isI ty) (.cons a' .nil) => (f == ("isinstance" : Str)) && bltB c f && tyB ty t && bltB c t && chkE n c a a'
    | .Call (.Name f _) args [] _, .bi b es => ((biB b args.length f && bltB c f) || (mthB b args.length f && c.mth.contains f && glB c.sc f && okN f)) && chkEs n c args es
    | .Call (.Name f _) [.Call (.Name g _) [a] [] _] [] _, .lr1 a' => (f == ("list" : Str)) && bltB c f && (g == ("range" : Str)) && bltB c g && chkE n c a a'
    | .Call (.Name f _) [.Call (.Name g _) [a, b] [] _] [] _, .lr2 a' b' => (f == ("list" : Str)) && bltB c f && (g == ("range" : Str)) && bltB c g && chkE n c a a' && chkE n c b b'
    | .Call (.Attribute o m apos) [] [] pos, .mt .pop o' .nil => (m == ("pop" : Str)) && (apos.endLine == pos.line) && notCall0 o && chkE n c o o'
    | .Call (.Name f _) [a] [⟨some kn, .Constant (.int i) _ _, _⟩] _, .maxD l j => (f == ("max" : Str)) && bltB c f && (kn == Str.ofString "default") && decide (i = j) && chkL n c a l
    | .Call (.Name f _) [a] [] _, .srt l => (f == ("sorted" : Str)) && bltB c f && chkL n c a l
    | .Call (.Name f _) [a] [] _, .aa k l => (f == (if k then ("all" : Str) else ("any" : Str))) && bltB c f && chkL n c a l
    | .Call (.Name f _) [.Call (.Name g _) [a, b] [] _] [] _, .tr2 a' b' => (f == ("tuple" : Str)) && bltB c f && (g == ("range" : Str)) && bltB c g && chkE n c a a' && chkE n c b b'
    | .Call (.Name f _) [a] [] _, .bl b l => blB b f && bltB c f && chkL n c a l
    | .Name x _, .glc w => (c.cns.any fun p => (p.1 == x) && W.eqb p.2 w) && glB c.sc x && okN x
    | .Call (.Name f _) [a] [] _, .rgN a' => (f == ("range" : Str)) && bltB c f && chkE n c a a'
    | .Call (.Name f _) [.Call (.Name g _) [a] [] _] [] _, .srtD l => (f == ("sorted" : Str)) && bltB c f && (g == ("set" : Str)) && bltB c g && chkL n c a l
    | .ListComp elt gs scope pos, .mk (.comp2 g it ts g2 it2 ts2 el own own2) => chkL n c (.ListComp elt gs scope pos) (.comp2 g it ts g2 it2 ts2 el own own2)
    | .Call (.Attribute o m apos) args [] pos, .mt f o' es => mtB f args.length m && (apos.endLine == pos.line) && decide (args.length < 29) && notCall0 o && chkE n c o o' && chkEs n c args es
    | _, _ => false
def chkB : Nat → Cc → BoolOp → List Expr → IE → Bool
  | 0, _, _, _, _ => false
  | n + 1, c, z0, z1, z2 => match z0, z1, z2 with
    | _, [a], e' => chkE n c a e'
    | .And, a :: b :: r, .and a' b' => chkE n c a a' && chkB n c .And (b :: r) b'
    | .Or, a :: b :: r, .or a' b' => chkE n c a a' && chkB n c .Or (b :: r) b'
    | _, _, _ => false
def chkEs : Nat → Cc → List Expr → IEs → Bool
  | 0, _, _, _ => false
  | n + 1, c, z0, z1 => match z0, z1 with
    | [], .nil => true
    | e :: es, .cons e' es' => notStar e && chkE n c e e' && chkEs n c es es'
    | _, _ => false
def chkP : Nat → Cc → Option Expr → IP → Bool
  | 0, _, _, _ => false
  | n + 1, c, z0, z1 => match z0, z1 with
    | none, .no => true
    | some e, .at e' => chkE n c e e'
    | _, _ => false
def chkT : Nat → Cc → Expr → IT → Bool
  | 0, _, _, _ => false
  | n + 1, c, z0, z1 => match z0, z1 with
    | .UnaryOp .Not a _, .not a' => chkT n c a a'
    | .BoolOp op es _, t => chkW n c op es t
    | .Compare a [.Is] [.Constant .none _ _] _, .val (.cmp .isN a' (.cst .non)) => chkE n c a a'
    | .Compare a [.IsNot] [.Constant .none _ _] _, .val (.cmp .notN a' (.cst .non)) => chkE n c a a'
    | .Compare a [op] [b] _, .val (.cmp o a' b') => copB op o && notSet b && chkE n c a a' && chkE n c b b'
    | e, .val e' => plainT e && chkE n c e e'
    | _, _ => false
def chkW : Nat → Cc → BoolOp → List Expr → IT → Bool
  | 0, _, _, _, _ => false
  | n + 1, c, z0, z1, z2 => match z0, z1, z2 with
    | _, [a], e' => chkT n c a e'
    | .And, a :: b :: r, .and a' b' => chkT n c a a' && chkW n c .And (b :: r) b'
    | .Or, a :: b :: r, .or a' b' => chkT n c a a' && chkW n c .Or (b :: r) b'
    | _, _, _ => false
def chkL : Nat → Cc → Expr → IL → Bool
  | 0, _, _, _ => false
  | n + 1, c, z0, z1 => match z0, z1 with
    | .ListComp elt [⟨tg, iter, ifs, 0⟩] scope _, .comp g it ts el own => decide (own = (ownOf c scope).map (·.2)) && blkC c.N c.sc scope (ownOf c scope) && chkI n c tg iter it && notSet iter && chkG n (c.blk scope) tg g && chkTs n (c.blk scope) ifs ts && chkE n (c.blk scope) elt el && (slots g).all (own.contains ·)
    | .ListComp elt [⟨tg, iter, ifs, 0⟩, ⟨tg1, iter1, ifs1, 0⟩] scope _, .comp2 g it ts g2 it2 ts2 el own own2 => decide (own = (ownOf c scope).map (·.2)) && blkC c.N c.sc scope (ownOf c scope) && chkI n c tg iter it && notSet iter && chkG n (c.blk scope) tg g && chkTs n (c.blk scope) ifs ts && chkJ n (c.blk scope) iter1 it2 && notSet iter1 && chkG n (c.blk scope) tg1 g2 && chkTs n (c.blk scope) ifs1 ts2 && chkE n (c.blk scope) elt el && (slots g).all (own.contains ·) && (slots g2).all (own2.contains ·) && own2.all (own.contains ·)
    | .List es _, .disp es' => chkEs n c es es'
    | e, .of e' => chkE n c e e'
    | _, _ => false
def chkTs : Nat → Cc → List Expr → ITs → Bool
  | 0, _, _, _ => false
  | n + 1, c, z0, z1 => match z0, z1 with
    | [], .nil => true
    | [t], .cons t' .nil => chkT n c t t'
    | _, _ => false
def chkI : Nat → Cc → Expr → Expr → II → Bool
  | 0, _, _, _, _ => false
  | n + 1, c, z0, z1, z2 => match z0, z1, z2 with
    | _, .Call (.Name f _) [a] [] _, .rng1 a' => (f == ("range" : Str)) && bltB c f && notStar a && chkE n c a a'
    | _, .Call (.Name f _) [a, b] [] _, .rng2 a' b' => (f == ("range" : Str)) && bltB c f && notStar a && notStar b && chkE n c a a' && chkE n c b b'
    | tg, .Call (.Name f _) [a, b] [] _, .zip a' b' => (f == ("zip" : Str)) && bltB c f && notStar a && notStar b && isTupE tg && chkL n c a a' && chkL n c b b'
    | tg, .Call (.Name f _) [a] [] _, .enum a' => (f == ("enumerate" : Str)) && bltB c f && notStar a && isTupE tg && chkL n c a a'
    | _, .Call (.Name f _) [a, b, .UnaryOp .USub (.Constant (.int 1) _ _) _] [] _, .rng3 a' b' => (f == ("range" : Str)) && bltB c f && notStar a && notStar b && chkE n c a a' && chkE n c b b'
    | _, e, .rgv e' => chkE n c e e'
    | _, e, .of l => chkL n c e l
    | _, _, _ => false
/-- what is walked within a turn -/
def chkJ : Nat → Cc → Expr → II → Bool
  | 0, _, _, _ => false
  | n + 1, c, z1, z2 => match z1, z2 with
    | .Call (.Name f _) [a] [] _, .rng1 a' => (f == ("range" : Str)) && bltB c f && notStar a && chkE n c a a'
    | .Call (.Name f _) [a, b] [] _, .rng2 a' b' => (f == ("range" : Str)) && bltB c f && notStar a && notStar b && chkE n c a a' && chkE n c b b'
    | e, .of (.of e') => chkE n c e e'
    | _, _ => false
end
/-- name = [..] on one line, the name a local: stored by the comprehension itself -/
def swapB (c : Cc) (y : Str) (py : Pos) (scope : Scope) (pos : Pos) : Bool :=
  (match c.sc.names.lookup y with | some .local => true | _ => false) && (py.line == pos.line) && !(scope.names.any fun (n, k) => n == y && (k == .local || k == .cell))
/-- a name that another block reads, too -/
def cellB (c : Cc) (y : Str) : Bool := match c.sc.names.lookup y with | some .cell => true | _ => false
mutual
def chkS : Nat → Cc → Stmt → IS → Bool
  | 0, _, _, _ => false
  | n + 1, c, z0, z1 => match z0, z1 with
    | .Expr (.Constant (.str _) _ _) _, .pass => true
    | .Expr e _, .expr e' => notComp e && chkE n c e e'
    | .Assign [.Name y py] (.ListComp elt gs scope pos) _, .asg (.var i) (.mk (.comp g it ts el own)) => (decide (c.N[i]? = some y) && swapB c y py scope pos && chkL n c (.ListComp elt gs scope pos) (.comp g it ts el own)) || (cellB c y && chkG n c (.Name y py) (.var i) && chkE n c (.ListComp elt gs scope pos) (.mk (.comp g it ts el own)))
    | .Assign [.Subscript o i _] e _, .set o' i' e' => notComp e && notSlice i && chkE n c o o' && chkE n c i i' && chkE n c e e'
    | .Assign [tg] e _, .asg t e' => notComp e && !(isTupE e && isTupE tg) && chkG n c tg t && chkE n c e e'
    | .AugAssign (.Name x _) .Add e _, .aug i .add e' => decide (c.N[i]? = some x) && stoB c x && chkE n c e e'
    | .AugAssign (.Name x _) .Sub e _, .aug i .sub e' => decide (c.N[i]? = some x) && stoB c x && chkE n c e e'
    | .AugAssign (.Subscript o i _) .Add e _, .augS o' i' .add e' => notSlice i && chkE n c o o' && chkE n c i i' && chkE n c e e'
    | .AugAssign (.Subscript o i _) .Sub e _, .augS o' i' .sub e' => notSlice i && chkE n c o o' && chkE n c i i' && chkE n c e e'
    | .Raise _ _ _, .bad => true
    | .If t a b _, .ifs t' a' b' => chkT n c t t' && chkSs n c a a' && chkSs n c b b'
    | .For tg iter b [] _, .for t it b' => chkG n c tg t && chkI n c tg iter it && notSet iter && chkSs n c b b'
    | .While t b [] _, .whl t' b' => chkT n c t t' && chkSs n c b b'
    | .Return (some e) _, .ret e' => chkE n c e e'
    | .Return none _, .retN => true
    | .Break _, .brk => true
    | .Continue _, .cont => true
    | .Pass _, .pass => true
    | _, _ => false
def chkSs : Nat → Cc → List Stmt → ISs → Bool
  | 0, _, _, _ => false
  | n + 1, c, z0, z1 => match z0, z1 with
    | [], .nil => true
    | s :: ss, .cons s' ss' => chkS n c s s' && chkSs n c ss ss'
    | _, _ => false
end
end Ev

set_option Elab.async false
set_option linter.all false
set_option maxRecDepth 100000
/-! EvA: what the look gives: the judgement of every piece that fits. -/
namespace Ev
open PySem PySem.Spec PyProof.Rows L2

structure Ctx (X : Cx) (cl : List Value) (c : Cc) (k : Nat) (Φ : Fn) (Wx : WX) : Prop where
  N : X.N = c.N
  nd : c.N.Nodup
  sc : X.env.scope = c.sc
  kind : X.env.scope.kind = .function
  fn : X.fn = c.fn
  calm : X.calm = true
  room : Room k X.A
  tk : Takes X Wx
  pass : PassesOwn (model X.prog X.w) X.A X.env X.xe
  fns : ∀ (i : Nat) (x : Str) (a : Nat), c.fns[i]? = some (x, a) → FnAt X cl k (Φ i) x a
  blt : ∀ x : Str, c.blt.contains x = true → X.mg x = none
  lcm : c.mth.contains ("lcm" : Str) = true → X.mg "lcm" = some (.builtin "math.lcm")
  gcd : c.mth.contains ("gcd" : Str) = true → X.mg "gcd" = some (.builtin "math.gcd")
  cns : ∀ p ∈ c.cns, ∃ v, X.mg p.1 = some v ∧ ConV X.K p.2 v
section
variable {X : Cx} {cl : List Value} {c : Cc} {k : Nat} {Φ : Fn} {Wx : WX}
theorem Ctx.blk (C : Ctx X cl c k Φ Wx) {scope : Scope} (hk : scope.kind = .function) (s : Shared) (H : Hp) (A : Addr) (cs : List (Str × Addr)) (fp : List Addr) : Ctx (X.blk s H scope (compEnvC scope cs A X.env) fp) cl (c.blk scope) k Φ noX where
  N := C.N
  nd := C.nd
  sc := by show relS scope X.env.scope = relS scope c.sc; rw [C.sc]
  kind := hk
  fn := rfl
  calm := C.calm
  room := C.room
  tk := takes0
  pass := PassesOwn.never
  fns := fun i x a h => ⟨(C.fns i x a h).ex, (C.fns i x a h).ln⟩
  blt := C.blt
  lcm := C.lcm
  gcd := C.gcd
  cns := C.cns
theorem Ctx.gl (C : Ctx X cl c k Φ Wx) {x : Str} (h : glB c.sc x = true) : Gl X x := by
  unfold glB at h
  split at h
  · rename_i e
    show X.env.scope.names.lookup x = _
    rw [C.sc]; exact e
  · cases h
theorem Ctx.vis (C : Ctx X cl c k Φ Wx) {x : Str} (h : visB c.sc x = true) : Vis X.env.scope x := by
  unfold visB at h
  unfold Vis
  rw [C.sc]
  split at h
  · rename_i e; exact .inl e
  · rename_i e; exact .inr (.inl e)
  · rename_i e; exact .inr (.inr e)
  · cases h
theorem Ctx.sto (C : Ctx X cl c k Φ Wx) {x : Str} (h : stoB c x = true) : L2.Loc X.env.scope x ∧ (X.fn x = true ∨ X.env.scope.names.lookup x = some .local) := by
  unfold stoB at h
  unfold L2.Loc
  rw [C.sc, C.fn]
  split at h
  · rename_i e; exact ⟨.inl e, .inr e⟩
  · rename_i e; exact ⟨.inr e, .inl h⟩
  · cases h
theorem okN_of {x : Str} (h : okN x = true) : (x == ("__debug__" : Str)) = false ∧ (x == ("__classdict__" : Str)) = false ∧ x ≠ "__name__" := by
  unfold okN at h
  simp only [Bool.and_eq_true, Bool.not_eq_true'] at h
  exact ⟨h.1.1, h.1.2, fun e => by subst e; cases h.2⟩
theorem Ctx.bl (C : Ctx X cl c k Φ Wx) {x : Str} (h : bltB c x = true) : X.mg x = none ∧ Gl X x ∧ (x == ("__debug__" : Str)) = false ∧ x ≠ "__name__" := by
  unfold bltB at h
  simp only [Bool.and_eq_true] at h
  obtain ⟨h1, _, h3⟩ := okN_of h.2
  exact ⟨C.blt x h.1.1, C.gl h.1.2, h1, h3⟩
/-! ### plain forms -/
theorem star1 {e : Expr} (h : notStar e = true) (es : List Expr) (env : Env) : starEach (e :: es) env = (false, eval e env) :: starEach es env := by
  cases e <;> first | rfl | (simp only [notStar] at h; cases h)
theorem any_false {es : List Expr} {env : Env} {pos : Pos} (h : starEach es env = es.map fun e => (false, eval e env)) : (backTo pos (starEach es env)).any (·.1) = false := by
  rw [h]
  unfold backTo
  induction es with
  | nil => rfl
  | cons e es ih =>
    simp only [List.map_cons, List.any_cons, Bool.false_or]
    have : ∀ l : List Expr, ((List.map (fun x : Bool × Sem Value => (x.1, if x.1 then (do let v ← x.2; standAt pos; pure v) else x.2)) (l.map fun e => (false, eval e env))).any (·.1)) = false := by
      intro l
      induction l with
      | nil => rfl
      | cons a l ih => simp only [List.map_cons, List.any_cons, Bool.false_or]; exact ih
    exact this es
theorem plainIx {b : Expr} (h : notSlice b = true) : PlainIx b := by
  intro o i
  cases b <;> first | rfl | (simp only [notSlice] at h; cases h)
theorem folded {e : Expr} (h : notSet e = true) (env : Env) (x : Value) : foldedSetIterable e env x = pure x := by
  cases e <;> first | rfl | (simp only [notSet] at h; cases h)
theorem noSwap {e : Expr} (h : notComp e = true) (t : Option Expr) (l : Nat) (env : Env) : swapsWith e t l env = pure false := by
  cases e <;> first | rfl | (simp only [notComp] at h; cases h)
theorem noSole {e tg : Expr} (h : notComp e = true) (l : Nat) (env : Env) : swapsWithSole [tg] e l env = pure false := noSwap h _ _ _
theorem noStores {e tg : Expr} (h : (isTupE e && isTupE tg) = false) (env : Env) : swappedStores [tg] e env = pure none ∨ (∃ es p, tg = .List es p) := by
  cases tg <;> first
    | (refine .inl ?_; rfl)
    | exact .inr ⟨_, _, rfl⟩
    | (refine .inl ?_; cases e <;> first | rfl | (simp only [isTupE] at h; cases h))
theorem attrBase {o : Expr} (h : notCall0 o = true) (name : Str) (env : Env) : attributeBase o name env (eval o env) = eval o env := by
  cases o with
  | Call f args kws pos =>
    cases args with
    | nil => simp only [notCall0] at h; cases h
    | cons a as => cases f <;> rfl
  | _ => rfl
theorem plain_isTrue {e : Expr} (h : plainT e = true) (env : Env) (whole : Sem Value) : isTrue e env whole = (do let v ← whole; standAt e.pos; holding [v] (truthy v)) := by
  cases e with
  | UnaryOp op a p => cases op <;> first | rfl | (simp only [plainT] at h; cases h)
  | BoolOp _ _ _ => simp only [plainT] at h; cases h
  | IfExp _ _ _ _ => simp only [plainT] at h; cases h
  | Compare _ _ _ _ => simp only [plainT] at h; cases h
  | _ => rfl
theorem few_ok {es : List Expr} {env : Env} {pos : Pos} (h : starEach es env = es.map fun e => (false, eval e env)) (hl : es.length < 29) : ((backTo pos (starEach es env)).all (fun x => !x.1) && (backToKw pos (keywordEach [] env)).all (fun x => x.1.isSome)
      && decide (es.length + ([] : List Keyword).length + (if ([] : List Keyword).isEmpty then 0 else 1) < 30)) = true := by
  rw [h]
  have : ∀ l : List Expr, ((backTo pos (l.map fun e => (false, eval e env))).all (fun x => !x.1)) = true := by
    intro l
    unfold backTo
    induction l with
    | nil => rfl
    | cons a l ih => simp only [List.map_cons, List.all_cons, Bool.not_false, Bool.true_and]; exact ih
  rw [this es]
  show (true && true && decide (es.length + 0 + 0 < 30)) = true
  rw [decide_eq_true (by omega)]
  rfl
theorem asg1 {t : Expr} (h : notStar t = true) (ts : List Expr) (env : Env) : assignEach (t :: ts) env = (false, assign t env) :: assignEach ts env := by
  cases t <;> first | rfl | (simp only [notStar] at h; cases h)
theorem idx_of {N : List Str} {x : Str} {i : Nat} (h : N.idxOf? x = some i) : N[i]? = some x := by
  obtain ⟨h1, h2⟩ := (List.idxOf?_eq_some_iff).mp h
  rw [List.getElem?_eq_getElem h1]
  exact congrArg some (by simpa using h2.1)
theorem cmp_bl {ea eb : En → Hw → Res W} {o : Cop} {ρ : En} {h h' : Hw} {w : W} (e : ((ea ρ h).bind fun x h => (eb ρ h).bind fun y h => cmp o x y h) = .ok w h') : ∃ k, w = .bl k := by
  cases e1 : ea ρ h with
  | ok a h1 =>
    rw [e1] at e
    simp only [Res.bind_ok] at e
    cases e2 : eb ρ h1 with
    | ok b h2 =>
      rw [e2] at e
      simp only [Res.bind_ok] at e
      unfold cmp at e
      repeat' split at e
      all_goals first | (cases e; exact ⟨_, rfl⟩) | cases e
    | exc x h2 => rw [e2] at e; cases e
    | err => rw [e2] at e; cases e
  | exc x h1 => rw [e1] at e; cases e
  | err => rw [e1] at e; cases e
end
end Ev

set_option Elab.async false
set_option linter.all false
set_option maxRecDepth 100000
set_option maxHeartbeats 4000000
/-! EvB: the main induction. -/
namespace Ev
open PySem PySem.Spec PyProof.Rows L2

section
variable (cl : List Value)
def SG (n : Nat) : Prop := ∀ c e g, chkG n c e g = true → notStar e = true ∧ (isTupE e = true ∨ ∃ x p, e = .Name x p) ∧ ∀ (X : Cx) k Φ Wx, Ctx X cl c k Φ Wx → PG X e (gG X.K g)
def SGs (n : Nat) : Prop := ∀ c es gs, chkGs n c es gs = true → es.length = gs.length ∧ (∀ env, assignEach es env = es.map fun t => (false, assign t env)) ∧ ∀ (X : Cx) k Φ Wx, Ctx X cl c k Φ Wx → PGs X es (gGs X.K gs)
theorem sndG : ∀ n, SG cl n ∧ SGs cl n
  | 0 => ⟨fun _ _ _ h => by simp [chkG] at h, fun _ _ _ h => by simp [chkGs] at h⟩
  | n + 1 => by
    obtain ⟨iG, iGs⟩ := sndG n
    refine ⟨fun c e g h => ?_, fun c es gs h => ?_⟩
    · unfold chkG at h
      split at h
      · rename_i x p i
        simp only [Bool.and_eq_true, decide_eq_true_eq] at h
        refine ⟨rfl, .inr ⟨_, _, rfl⟩, fun X k Φ Wx C => ?_⟩
        obtain ⟨h1, h2⟩ := C.sto h.2
        unfold gG
        exact pg_name (C.N ▸ C.nd) (C.N ▸ h.1) h1 h2
      · refine ⟨rfl, .inl rfl, fun X k Φ Wx C => ?_⟩
        obtain ⟨hl, ha, hp⟩ := iGs _ _ _ h
        unfold gG
        refine pg_tup C.calm (hp X k Φ Wx C) (by rw [ha, List.length_map, hl]) ?_
        rw [ha]
        have : ∀ l : List Expr, (l.map fun t => (false, assign t X.env)).findIdx? (·.1) = none := fun l => by
          rw [List.findIdx?_eq_none_iff]
          intro x hx
          obtain ⟨t, _, rfl⟩ := List.mem_map.mp hx
          rfl
        exact this _
      · cases h
    · unfold chkGs at h
      split at h
      · exact ⟨rfl, fun _ => rfl, fun X k Φ Wx C => by unfold gGs; exact pgs_nil⟩
      · simp only [Bool.and_eq_true] at h
        obtain ⟨s1, _, p1⟩ := iG _ _ _ h.1
        obtain ⟨l2, a2, p2⟩ := iGs _ _ _ h.2
        refine ⟨by simp [l2], fun env => by rw [asg1 s1, a2]; rfl, fun X k Φ Wx C => ?_⟩
        unfold gGs
        exact pgs_cons (p1 X k Φ Wx C) (p2 X k Φ Wx C) (by rw [asg1 s1]; rfl)
      · cases h
end
/-! ### the meaning, as functions -/
section
variable (Φ : Fn)
theorem e_bin (o : Bop) (a b : IE) : evE Φ (.bin o a b) = fun ρ h => (evE Φ a ρ h).bind fun x h => (evE Φ b ρ h).bind fun y h => bop o x y h := by funext ρ h; rw [evE] <;> rfl
theorem e_var (i : Nat) : evE Φ (.var i) = fun ρ h => match ρ[i]? with | some (some w) => .ok w h | _ => .err := by funext ρ h; rw [evE] <;> rfl
theorem e_cst (w : W) : evE Φ (.cst w) = fun _ h => .ok w h := by funext ρ h; rw [evE] <;> rfl
theorem e_neg (a : IE) : evE Φ (.neg a) = fun ρ h => (evE Φ a ρ h).bind fun x h => match x with | .int i => .ok (.int (-i)) h | _ => .err := by funext ρ h; rw [evE] <;> rfl
theorem e_cmp (o : Cop) (a b : IE) : evE Φ (.cmp o a b) = fun ρ h => (evE Φ a ρ h).bind fun x h => (evE Φ b ρ h).bind fun y h => cmp o x y h := by funext ρ h; rw [evE] <;> rfl
theorem e_and (a b : IE) : evE Φ (.and a b) = fun ρ h => (evE Φ a ρ h).bind fun x h => match truth x h with | some true => evE Φ b ρ h | some false => .ok x h | none => .err := by funext ρ h; rw [evE] <;> rfl
theorem e_or (a b : IE) : evE Φ (.or a b) = fun ρ h => (evE Φ a ρ h).bind fun x h => match truth x h with | some true => .ok x h | some false => evE Φ b ρ h | none => .err := by funext ρ h; rw [evE] <;> rfl
theorem e_not (a : IT) : evE Φ (.not a) = fun ρ h => (evT Φ a ρ h).bind fun k h => .ok (.bl (!k)) h := by funext ρ h; rw [evE] <;> rfl
theorem e_ite (c : IT) (a b : IE) : evE Φ (.ite c a b) = fun ρ h => (evT Φ c ρ h).bind fun k h => if k = true then evE Φ a ρ h else evE Φ b ρ h := by funext ρ h; rw [evE] <;> rfl
theorem e_tup (es : IEs) : evE Φ (.tup es) = fun ρ h => (evEs Φ es ρ h).bind fun vs h => if vs.length ≤ lim then .ok (.tup vs) h else .err := by funext ρ h; rw [evE] <;> rfl
theorem e_lst (es : IEs) : evE Φ (.lst es) = fun ρ h => (evEs Φ es ρ h).bind fun vs h => if vs.length ≤ lim then .ok (.ref h.length) (h ++ [.lst vs]) else .err := by funext ρ h; rw [evE] <;> rfl
theorem e_idx (a b : IE) : evE Φ (.idx a b) = fun ρ h => (evE Φ a ρ h).bind fun x h => (evE Φ b ρ h).bind fun y h => item x y h := by funext ρ h; rw [evE] <;> rfl
theorem e_slc (a : IE) (lo hi : IP) : evE Φ (.slc a lo hi) = fun ρ h => (evE Φ a ρ h).bind fun x h => (evP Φ lo ρ h).bind fun l h => (evP Φ hi ρ h).bind fun u h => slice x l u h := by funext ρ h; rw [evE] <;> rfl
theorem e_call (f : Nat) (es : IEs) : evE Φ (.call f es) = fun ρ h => (evEs Φ es ρ h).bind fun vs h => Φ f vs h := by funext ρ h; rw [evE] <;> rfl
theorem e_bi (f : Bi) (es : IEs) : evE Φ (.bi f es) = fun ρ h => (evEs Φ es ρ h).bind fun vs h => bi f vs h := by funext ρ h; rw [evE] <;> rfl
theorem e_bl (f : Bl) (l : IL) : evE Φ (.bl f l) = fun ρ h => (evL Φ l ρ h).bind fun q h => bl f q.1 h := by funext ρ h; rw [evE] <;> rfl
theorem e_mt (f : Mt) (o : IE) (es : IEs) : evE Φ (.mt f o es) = fun ρ h => (evE Φ o ρ h).bind fun x h => match x with
    | .ref n => (match h[n]? with | some (.lst _) => (evEs Φ es ρ h).bind fun vs h => mt f x vs h | _ => .err)
    | _ => .err := by funext ρ h; rw [evE] <;> rfl
theorem e_mk (l : IL) : evE Φ (.mk l) = fun ρ h => (evL Φ l ρ h).bind fun q h => .ok (.ref h.length) (h ++ [.lst q.1]) := by funext ρ h; rw [evE] <;> rfl
theorem e_lr1 (a : IE) : evE Φ (.lr1 a) = fun ρ h => (evE Φ a ρ h).bind fun x h => match x with
    | .int j => if -(2 ^ 62) ≤ j ∧ j ≤ 16777216 then .ok (.ref h.length) (h ++ [.lst (rng 0 (j - 0).toNat)]) else .err
    | _ => .err := by funext ρ h; rw [evE] <;> rfl
theorem e_lr2 (a b : IE) : evE Φ (.lr2 a b) = fun ρ h => (evE Φ a ρ h).bind fun x h => (evE Φ b ρ h).bind fun y h => match x, y with
    | .int i, .int j => if -(2 ^ 62) ≤ i ∧ i < 2 ^ 62 ∧ -(2 ^ 62) ≤ j ∧ j < 2 ^ 62 ∧ (j - i).toNat ≤ lim then .ok (.ref h.length) (h ++ [.lst (rng i (j - i).toNat)]) else .err
    | _, _ => .err := by funext ρ h; rw [evE] <;> rfl
theorem e_maxD (l : IL) (j : Int) : evE Φ (.maxD l j) = fun ρ h => (evL Φ l ρ h).bind fun q h => maxDf q.1 q.2.2 j h := by funext ρ h; rw [evE] <;> rfl
theorem e_srt (l : IL) : evE Φ (.srt l) = fun ρ h => (evL Φ l ρ h).bind fun q h => srtf q.1 q.2.2 h := by funext ρ h; rw [evE] <;> rfl
theorem e_aa (k : Bool) (l : IL) : evE Φ (.aa k l) = fun ρ h => (evL Φ l ρ h).bind fun q h => aaf k q.1 q.2.2 h := by funext ρ h; rw [evE] <;> rfl
theorem e_tr2 (a b : IE) : evE Φ (.tr2 a b) = fun ρ h => (evE Φ a ρ h).bind fun x h => (evE Φ b ρ h).bind fun y h => match x, y with
    | .int i, .int j => if -(2 ^ 62) ≤ i ∧ i < 2 ^ 62 ∧ -(2 ^ 62) ≤ j ∧ j < 2 ^ 62 ∧ (j - i).toNat ≤ lim then .ok (.tup (rng i (j - i).toNat)) h else .err
    | _, _ => .err := by funext ρ h; rw [evE] <;> rfl
theorem e_glc (w : W) : evE Φ (.glc w) = fun _ h => .ok w h := by funext ρ h; rw [evE] <;> rfl
theorem e_rgN (a : IE) : evE Φ (.rgN a) = fun ρ h => (evE Φ a ρ h).bind fun x h => match x with
    | .int j => .ok (.rg 0 j) h
    | _ => .err := by funext ρ h; rw [evE] <;> rfl
theorem e_srtD (l : IL) : evE Φ (.srtD l) = fun ρ h => (evL Φ l ρ h).bind fun q h => srtDf q.1 q.2.2 h := by funext ρ h; rw [evE] <;> rfl
theorem es_nil : evEs Φ .nil = fun _ h => .ok [] h := by funext ρ h; rw [evEs] <;> rfl
theorem es_cons (e : IE) (es : IEs) : evEs Φ (.cons e es) = fun ρ h => (evE Φ e ρ h).bind fun x h => (evEs Φ es ρ h).bind fun xs h => .ok (x :: xs) h := by funext ρ h; rw [evEs] <;> rfl
theorem ep_no : evP Φ .no = fun _ h => .ok none h := by funext ρ h; rw [evP] <;> rfl
theorem ep_at (e : IE) : evP Φ (.at e) = fun ρ h => (evE Φ e ρ h).bind fun x h => match x with | .int i => .ok (some i) h | _ => .err := by funext ρ h; rw [evP] <;> rfl
theorem et_val (e : IE) : evT Φ (.val e) = fun ρ h => (evE Φ e ρ h).bind fun x h => match truth x h with | some k => .ok k h | none => .err := by funext ρ h; rw [evT] <;> rfl
theorem et_and (a b : IT) : evT Φ (.and a b) = fun ρ h => (evT Φ a ρ h).bind fun k h => if k = true then evT Φ b ρ h else .ok false h := by funext ρ h; rw [evT] <;> rfl
theorem et_or (a b : IT) : evT Φ (.or a b) = fun ρ h => (evT Φ a ρ h).bind fun k h => if k = true then .ok true h else evT Φ b ρ h := by funext ρ h; rw [evT] <;> rfl
theorem et_not (a : IT) : evT Φ (.not a) = fun ρ h => (evT Φ a ρ h).bind fun k h => .ok (!k) h := by funext ρ h; rw [evT] <;> rfl
theorem el_of (e : IE) : evL Φ (.of e) = fun ρ h => (evE Φ e ρ h).bind fun x h => match seqOf h x with | some xs => .ok (xs, guOf x xs, isTup x) h | none => .err := by funext ρ h; rw [evL] <;> rfl
theorem el_disp (es : IEs) : evL Φ (.disp es) = fun ρ h => (evEs Φ es ρ h).bind fun vs h => if vs.length ≤ lim then .ok (vs, [], false) h else .err := by funext ρ h; rw [evL] <;> rfl
theorem el_comp (g : IG) (it : II) (ts : ITs) (elt : IE) (own : List Nat) : evL Φ (.comp g it ts elt own) = fun ρ h => (evI Φ it ρ h).bind fun q h => (compL g q.2 (fun ρ h => evTs Φ ts ρ h) (fun ρ h => evE Φ elt ρ h) own ρ q.1 h []).bind fun ys h => .ok (ys, [], false) h := by funext ρ h; rw [evL] <;> rfl
theorem el_comp2 (g : IG) (it : II) (ts : ITs) (g2 : IG) (it2 : II) (ts2 : ITs) (elt : IE) (own own2 : List Nat) : evL Φ (.comp2 g it ts g2 it2 ts2 elt own own2) = fun ρ h => (evI Φ it ρ h).bind fun q h => (compM g q.2 (fun ρ h => evTs Φ ts ρ h) (fun ρ h acc => (evI Φ it2 ρ h).bind fun q2 h => compL g2 q2.2 (fun ρ h => evTs Φ ts2 ρ h) (fun ρ h => evE Φ elt ρ h) own2 ρ q2.1 h acc) own ρ q.1 h []).bind fun ys h => .ok (ys, [], false) h := by funext ρ h; rw [evL] <;> rfl
theorem ets_nil : evTs Φ .nil = fun _ h => .ok true h := by funext ρ h; rw [evTs] <;> rfl
theorem ets_cons (t : IT) (ts : ITs) : evTs Φ (.cons t ts) = fun ρ h => (evT Φ t ρ h).bind fun k h => if k = true then evTs Φ ts ρ h else .ok false h := by funext ρ h; rw [evTs] <;> rfl
theorem ei_of (l : IL) : evI Φ (.of l) = fun ρ h => (evL Φ l ρ h).bind fun q h => .ok (q.1, q.2.1) h := by funext ρ h; rw [evI] <;> rfl
theorem ei_rng1 (a : IE) : evI Φ (.rng1 a) = fun ρ h => (evE Φ a ρ h).bind fun x h => match x with
    | .int j => if -(2 ^ 62) ≤ j ∧ j < 2 ^ 62 then .ok (rng 0 j.toNat, []) h else .err
    | _ => .err := by funext ρ h; rw [evI] <;> rfl
theorem ei_rng2 (a b : IE) : evI Φ (.rng2 a b) = fun ρ h => (evE Φ a ρ h).bind fun x h => (evE Φ b ρ h).bind fun y h => match x, y with
    | .int i, .int j => if -(2 ^ 62) ≤ i ∧ i < 2 ^ 62 ∧ -(2 ^ 62) ≤ j ∧ j < 2 ^ 62 then .ok (rng i (j - i).toNat, []) h else .err
    | _, _ => .err := by funext ρ h; rw [evI] <;> rfl
theorem ei_rng3 (a b : IE) : evI Φ (.rng3 a b) = fun ρ h => (evE Φ a ρ h).bind fun x h => (evE Φ b ρ h).bind fun y h => match x, y with
    | .int i, .int j => if -(2 ^ 62) ≤ i ∧ i < 2 ^ 62 ∧ -(2 ^ 62) ≤ j ∧ j < 2 ^ 62 then .ok (rngd i (i - j).toNat, []) h else .err
    | _, _ => .err := by funext ρ h; rw [evI] <;> rfl
theorem ei_rgv (e : IE) : evI Φ (.rgv e) = fun ρ h => (evE Φ e ρ h).bind fun x h => match x with
    | .rg i j => if -(2 ^ 62) ≤ i ∧ i < 2 ^ 62 ∧ -(2 ^ 62) ≤ j ∧ j < 2 ^ 62 then .ok (rng i (j - i).toNat, []) h else .err
    | _ => .err := by funext ρ h; rw [evI] <;> rfl
theorem ei_zip (a b : IL) : evI Φ (.zip a b) = fun ρ h => (evL Φ a ρ h).bind fun p h => (evL Φ b ρ h).bind fun q h => if p.2.2 = q.2.2 then .ok ((p.1.zip q.1).map fun z => .tup [z.1, z.2], p.2.1 ++ q.2.1) h else .err := by funext ρ h; rw [evI] <;> rfl
theorem ei_enum (a : IL) : evI Φ (.enum a) = fun ρ h => (evL Φ a ρ h).bind fun p h => if p.2.2 = false then .ok (((List.range p.1.length).zip p.1).map fun z => .tup [.int (z.1 : Nat), z.2], p.2.1) h else .err := by funext ρ h; rw [evI] <;> rfl
end
/-! ### expressions -/
section
variable (cl : List Value)
def SE (n : Nat) : Prop := ∀ c e ie, chkE n c e ie = true → ∀ (X : Cx) k Φ Wx, Ctx X cl c k Φ Wx → PE X e (tE (gx X cl) Wx (evE Φ ie))
def SB (n : Nat) : Prop := ∀ c op es ie, chkB n c op es ie = true → ∀ (X : Cx) k Φ Wx pos, Ctx X cl c k Φ Wx → PE X (.BoolOp op es pos) (tE (gx X cl) Wx (evE Φ ie))
def SEs (n : Nat) : Prop := ∀ c es ies, chkEs n c es ies = true → (∀ env, starEach es env = es.map fun e => (false, eval e env)) ∧ ∀ (X : Cx) k Φ Wx, Ctx X cl c k Φ Wx → PA X es (tEs (gx X cl) Wx (evEs Φ ies))
def SP' (n : Nat) : Prop := ∀ c e ie, chkP n c e ie = true → ∀ (X : Cx) k Φ Wx, Ctx X cl c k Φ Wx → PO X e (tP (gx X cl) Wx (evP Φ ie))
def ST (n : Nat) : Prop := ∀ c e it, chkT n c e it = true → ∀ (X : Cx) k Φ Wx, Ctx X cl c k Φ Wx → PT X e (tT (gx X cl) Wx (evT Φ it))
def SW (n : Nat) : Prop := ∀ c op es it, chkW n c op es it = true → ∀ (X : Cx) k Φ Wx pos, Ctx X cl c k Φ Wx → PW X (.BoolOp op es pos) (tT (gx X cl) Wx (evT Φ it))
def SL (n : Nat) : Prop := ∀ c e il, chkL n c e il = true → ∀ (X : Cx) k Φ Wx, Ctx X cl c k Φ Wx → PE X e (tL (gx X cl) Wx (evL Φ il))
/-- a comprehension's parts -/
def SC (n : Nat) : Prop := ∀ c elt gs scope pos g it ts el own0, chkL n c (.ListComp elt gs scope pos) (.comp g it ts el own0) = true → ∃ tg iter ifs own, gs = [⟨tg, iter, ifs, 0⟩] ∧ own0 = own.map (·.2) ∧ blkC c.N c.sc scope own = true ∧ notSet iter = true ∧ (∀ i ∈ slots g, i ∈ own.map (·.2)) ∧
  ∀ (X : Cx) k Φ Wx, Ctx X cl c k Φ Wx → PI X tg iter (tI (gx X cl) Wx (evI Φ it)) ∧ (∀ (s : Shared) (H : Hp) (C : Addr) (cs : List (Str × Addr)) (fp : List Addr), PG (X.blk s H scope (compEnvC scope cs C X.env) fp) tg (gG X.K g) ∧ PTs (X.blk s H scope (compEnvC scope cs C X.env) fp) ifs (tT (gx X cl) noX (evTs Φ ts)) ∧ PE (X.blk s H scope (compEnvC scope cs C X.env) fp) elt (tE (gx X cl) noX (evE Φ el)))
def SC2 (n : Nat) : Prop := ∀ c elt gs scope pos g it ts g2 it2 ts2 el own0 own2, chkL n c (.ListComp elt gs scope pos) (.comp2 g it ts g2 it2 ts2 el own0 own2) = true → ∃ tg iter ifs tg1 iter1 ifs1 own, gs = [⟨tg, iter, ifs, 0⟩, ⟨tg1, iter1, ifs1, 0⟩] ∧ own0 = own.map (·.2) ∧ blkC c.N c.sc scope own = true ∧ notSet iter = true ∧ notSet iter1 = true ∧ (∀ i ∈ slots g, i ∈ own.map (·.2)) ∧ (∀ i ∈ slots g2, i ∈ own2) ∧ (∀ i ∈ own2, i ∈ own.map (·.2)) ∧
  ∀ (X : Cx) k Φ Wx, Ctx X cl c k Φ Wx → PI X tg iter (tI (gx X cl) Wx (evI Φ it)) ∧ (∀ (s : Shared) (H : Hp) (C : Addr) (cs : List (Str × Addr)) (fp : List Addr), PG (X.blk s H scope (compEnvC scope cs C X.env) fp) tg (gG X.K g) ∧ PTs (X.blk s H scope (compEnvC scope cs C X.env) fp) ifs (tT (gx X cl) noX (evTs Φ ts)) ∧
    PI (X.blk s H scope (compEnvC scope cs C X.env) fp) tg1 iter1 (tI2 (gx X cl) noX (evI Φ it2)) ∧ PG (X.blk s H scope (compEnvC scope cs C X.env) fp) tg1 (gG X.K g2) ∧ PTs (X.blk s H scope (compEnvC scope cs C X.env) fp) ifs1 (tT (gx X cl) noX (evTs Φ ts2)) ∧ PE (X.blk s H scope (compEnvC scope cs C X.env) fp) elt (tE (gx X cl) noX (evE Φ el)))
def SJ (n : Nat) : Prop := ∀ c e ii, chkJ n c e ii = true → ∀ (X : Cx) tg k Φ Wx, Ctx X cl c k Φ Wx → PI X tg e (tI2 (gx X cl) Wx (evI Φ ii))
def STs (n : Nat) : Prop := ∀ c es its, chkTs n c es its = true → ∀ (X : Cx) k Φ Wx, Ctx X cl c k Φ Wx → PTs X es (tT (gx X cl) Wx (evTs Φ its))
def SI (n : Nat) : Prop := ∀ c tg e ii, chkI n c tg e ii = true → ∀ (X : Cx) k Φ Wx, Ctx X cl c k Φ Wx → PI X tg e (tI (gx X cl) Wx (evI Φ ii))

theorem opOf {op : Operator} {o : Bop} (h : bopB op o = true) (X : Cx) : ∃ r, OpR X (binaryOp op) r ∧ OpS (gx X cl) r (bop o) := by
  cases op <;> cases o <;> first
    | (simp only [bopB] at h; cases h; done)
    | exact ⟨_, op_addA, addS (G := gx X cl)⟩
    | exact ⟨_, op_sub, subS⟩
    | exact ⟨_, op_mulA, mulS (G := gx X cl)⟩
    | exact ⟨_, op_fdivW, fdivS⟩
    | exact ⟨_, op_mod, modS⟩
    | exact ⟨_, op_pow, powS⟩
theorem cmOf {op : CmpOp} {o : Cop} (h : copB op o = true) (X : Cx) (hu : X.A.units + 65 < cLine) (b : Expr) (hb : notSet b = true) : (∃ r, OpR X (compareOp op) r ∧ OpS (gx X cl) r (cmp o)) ∧ behindInMarks op b = false := by
  have hx : ∀ p, behindInMarks p b = false := fun p => by cases b <;> first | rfl | (simp only [notSet] at hb; cases hb)
  have hu2 := hu
  have hu : X.A.units + 64 < cLine := by omega
  cases op <;> cases o <;> first
    | (simp only [copB] at h; cases h; done)
    | exact ⟨⟨_, op_eqD hu, eqS (G := gx X cl)⟩, nomark _⟩
    | exact ⟨⟨_, op_neD hu, neS (G := gx X cl)⟩, nomark _⟩
    | exact ⟨⟨_, op_lt, ltS⟩, nomark _⟩
    | exact ⟨⟨_, op_le, leS⟩, nomark _⟩
    | exact ⟨⟨_, op_gt, gtS⟩, nomark _⟩
    | exact ⟨⟨_, op_ge, geS⟩, nomark _⟩
    | exact ⟨⟨_, op_inD (by omega), inS (G := gx X cl)⟩, hx _⟩
    | exact ⟨⟨_, op_notInD (by omega), ninS (G := gx X cl)⟩, hx _⟩
theorem one_arg {args : List Expr} {n : Nat} (h : args.length = n + 1) : ∃ a as, args = a :: as ∧ as.length = n := by
  cases args with
  | nil => simp at h
  | cons a as => exact ⟨a, as, rfl, by simpa using h⟩
end
end Ev

set_option Elab.async false
set_option linter.all false
set_option maxRecDepth 100000
set_option maxHeartbeats 8000000
/-! EvC: the judgement of every expression that fits. -/
namespace Ev
open PySem PySem.Spec PyProof.Rows L2
section
variable (cl : List Value)
theorem blk_kind {N : List Str} {sc scope : Scope} {own : List (Str × Nat)} (h : blkC N sc scope own = true) : scope.kind = .function := (blkOk_by h).kind
/-- a call of a built-in function that fits -/
theorem biOf {b : Bi} {f : Str} {args : List Expr} {pos p : Pos} {c : Cc} {X : Cx} {k : Nat} {Φ : Fn} {Wx : WX} {ees : En → Hw → Res (List W)} (C : Ctx X cl c k Φ Wx) (hb : biB b args.length f = true) (hg : bltB c f = true)
    (hs : ∀ env, starEach args env = args.map fun e => (false, eval e env)) (ha : PA X args (tEs (gx X cl) Wx ees)) :
    PE X (.Call (.Name f p) args [] pos) (tE (gx X cl) Wx fun ρ h => (ees ρ h).bind fun vs h => bi b vs h) := by
  obtain ⟨h1, h2, h3, h4⟩ := C.bl hg
  have st : ∀ {a : Expr} {as : List Expr}, args = a :: as → starEach (a :: as) X.env = (false, eval a X.env) :: starEach as X.env ∧ (backTo pos (starEach as X.env)).any (·.1) = false := fun {a as} e => by
    subst e
    have q := hs X.env
    have ns : notStar a = true := by
      cases a <;> first | rfl | (simp [starEach] at q; done)
    have q1 := star1 ns as X.env
    refine ⟨q1, any_false ?_⟩
    rw [q1] at q
    simpa using q
  cases b with
  | abs =>
    simp only [biB, Bool.and_eq_true, beq_iff_eq] at hb
    obtain ⟨rfl, hl⟩ := hb
    obtain ⟨a, as, rfl, hl⟩ := one_arg hl
    obtain ⟨s1, s2⟩ := st rfl
    exact s_biB call_abs absS h2 h1 (by decide +kernel) ha h4 h3 s1 s2
  | toInt =>
    simp only [biB, Bool.and_eq_true, beq_iff_eq] at hb
    obtain ⟨rfl, hl⟩ := hb
    obtain ⟨a, as, rfl, hl⟩ := one_arg hl
    obtain ⟨s1, s2⟩ := st rfl
    exact s_biT call_int1 toIntS h2 h1 (by decide +kernel) ha h4 h3 s1 s2
  | max2 =>
    simp only [biB, Bool.and_eq_true, beq_iff_eq] at hb
    obtain ⟨rfl, hl⟩ := hb
    obtain ⟨a, as, rfl, hl⟩ := one_arg hl
    obtain ⟨s1, s2⟩ := st rfl
    exact s_biB (call_max2 C.calm) max2S h2 h1 (by decide +kernel) ha h4 h3 s1 s2
  | min2 =>
    simp only [biB, Bool.and_eq_true, beq_iff_eq] at hb
    obtain ⟨rfl, hl⟩ := hb
    obtain ⟨a, as, rfl, hl⟩ := one_arg hl
    obtain ⟨s1, s2⟩ := st rfl
    exact s_biB (call_min2 C.calm) min2S h2 h1 (by decide +kernel) ha h4 h3 s1 s2
  | divmod =>
    simp only [biB, Bool.and_eq_true, beq_iff_eq] at hb
    obtain ⟨rfl, hl⟩ := hb
    obtain ⟨a, as, rfl, hl⟩ := one_arg hl
    obtain ⟨s1, s2⟩ := st rfl
    exact s_biB call_divmodW dvmS h2 h1 (by decide +kernel) ha h4 h3 s1 s2
  | _ => simp only [biB] at hb; cases hb
theorem mthOf {b : Bi} {f : Str} {args : List Expr} {pos p : Pos} {c : Cc} {X : Cx} {k : Nat} {Φ : Fn} {Wx : WX} {ees : En → Hw → Res (List W)} (C : Ctx X cl c k Φ Wx) (hb : mthB b args.length f = true) (hm : c.mth.contains f = true) (hg : glB c.sc f = true) (ho : okN f = true)
    (hs : ∀ env, starEach args env = args.map fun e => (false, eval e env)) (ha : PA X args (tEs (gx X cl) Wx ees)) :
    PE X (.Call (.Name f p) args [] pos) (tE (gx X cl) Wx fun ρ h => (ees ρ h).bind fun vs h => bi b vs h) := by
  obtain ⟨h3, _, h4⟩ := okN_of ho
  have h2 := C.gl hg
  have st : ∀ {a : Expr} {as : List Expr}, args = a :: as → starEach (a :: as) X.env = (false, eval a X.env) :: starEach as X.env ∧ (backTo pos (starEach as X.env)).any (·.1) = false := fun {a as} e => by
    subst e
    have q := hs X.env
    have ns : notStar a = true := by
      cases a <;> first | rfl | (simp [starEach] at q; done)
    have q1 := star1 ns as X.env
    refine ⟨q1, any_false ?_⟩
    rw [q1] at q
    simpa using q
  cases b with
  | lcm =>
    simp only [mthB, Bool.and_eq_true, beq_iff_eq] at hb
    obtain ⟨rfl, hl⟩ := hb
    obtain ⟨a, as, rfl, hl⟩ := one_arg hl
    obtain ⟨s1, s2⟩ := st rfl
    exact s_biM cr_lcm lcmS h2 (C.lcm hm) ha h3 s1 s2
  | gcd =>
    simp only [mthB, Bool.and_eq_true, beq_iff_eq] at hb
    obtain ⟨rfl, hl⟩ := hb
    obtain ⟨a, as, rfl, hl⟩ := one_arg hl
    obtain ⟨s1, s2⟩ := st rfl
    exact s_biM cr_gcd gcdS h2 (C.gcd hm) ha h3 s1 s2
  | _ => simp only [mthB] at hb; cases hb
theorem blOf {b : Bl} {f : Str} {a : Expr} {pos p : Pos} {c : Cc} {X : Cx} {k : Nat} {Φ : Fn} {Wx : WX} {el : En → Hw → Res (List W × Gu × Bool)} (C : Ctx X cl c k Φ Wx) (hb : blB b f = true) (hg : bltB c f = true) (hs : notStar a = true) (ha : PE X a (tL (gx X cl) Wx el)) :
    PE X (.Call (.Name f p) [a] [] pos) (tE (gx X cl) Wx fun ρ h => (el ρ h).bind fun q h => bl b q.1 h) := by
  obtain ⟨h1, h2, h3, h4⟩ := C.bl hg
  have s1 : starEach [a] X.env = [(false, eval a X.env)] := star1 hs [] X.env
  cases b with
  | sum => simp only [blB, beq_iff_eq] at hb; subst hb; exact s_blB (cr_sumA C.calm) (sumS (G := gx X cl)) h2 h1 (by decide +kernel) ha h4 h3 s1
  | max => simp only [blB, beq_iff_eq] at hb; subst hb; exact s_blB (cr_maxA C.calm) (maxS (G := gx X cl)) h2 h1 (by decide +kernel) ha h4 h3 s1
  | min => simp only [blB, beq_iff_eq] at hb; subst hb; exact s_blB (cr_minA C.calm) (minS (G := gx X cl)) h2 h1 (by decide +kernel) ha h4 h3 s1
  | tuple => simp only [blB, beq_iff_eq] at hb; subst hb; exact s_blT call_tuple_of (tupleS (G := gx X cl)) h2 h1 (by decide +kernel) ha h4 h3 s1
  | list => simp only [blB, beq_iff_eq] at hb; subst hb; exact s_blT call_list_of (listS (G := gx X cl)) h2 h1 (by decide +kernel) ha h4 h3 s1
  | len => simp only [blB, beq_iff_eq] at hb; subst hb; exact s_blB call_len_seq (lenS (G := gx X cl)) h2 h1 (by decide +kernel) ha h4 h3 s1
  | sorted => simp only [blB] at hb; cases hb
theorem mtOf {f : Mt} {m : Str} {args : List Expr} {o : Expr} {apos pos : Pos} {c : Cc} {X : Cx} {k : Nat} {Φ : Fn} {Wx : WX} {eo : En → Hw → Res W} {ees : En → Hw → Res (List W)} (C : Ctx X cl c k Φ Wx) (hb : mtB f args.length m = true) (hl : (apos.endLine == pos.line) = true) (h29 : args.length < 29) (h0 : notCall0 o = true)
    (hs : ∀ env, starEach args env = args.map fun e => (false, eval e env)) (ho : PE X o (tE (gx X cl) Wx eo)) (ha : PA X args (tEs (gx X cl) Wx ees)) :
    PE X (.Call (.Attribute o m apos) args [] pos) (tE (gx X cl) Wx fun ρ h => (eo ρ h).bind fun x h => match x with
      | .ref n => (match h[n]? with | some (.lst _) => (ees ρ h).bind fun vs h => mt f x vs h | _ => .err)
      | _ => .err) := by
  have st : ∀ {a : Expr} {as : List Expr}, args = a :: as → starEach (a :: as) X.env = (false, eval a X.env) :: starEach as X.env ∧ (backTo pos (starEach as X.env)).any (·.1) = false := fun {a as} e => by
    subst e
    have q := hs X.env
    have ns : notStar a = true := by
      cases a <;> first | rfl | (simp [starEach] at q; done)
    have q1 := star1 ns as X.env
    refine ⟨q1, any_false ?_⟩
    rw [q1] at q
    simpa using q
  have few := few_ok (pos := pos) (hs X.env) h29
  cases f with
  | append =>
    simp only [mtB, Bool.and_eq_true, beq_iff_eq] at hb
    obtain ⟨rfl, hn⟩ := hb
    obtain ⟨a, as, rfl, hn⟩ := one_arg hn
    obtain ⟨s1, s2⟩ := st rfl
    exact s_mt PySem.F.plainAttrs_list PySem.F.slot_list_append PySem.F.type_list_append mt_append appendS ho ha (attrBase h0 _ _) few hl s1 s2
  | extend =>
    simp only [mtB, Bool.and_eq_true, beq_iff_eq] at hb
    obtain ⟨rfl, hn⟩ := hb
    obtain ⟨a, as, rfl, hn⟩ := one_arg hn
    obtain ⟨s1, s2⟩ := st rfl
    exact s_mt PySem.F.plainAttrs_list PySem.F.slot_list_extend PySem.F.type_list_extend mt_extend extendS ho ha (attrBase h0 _ _) few hl s1 s2
  | popAt =>
    simp only [mtB, Bool.and_eq_true, beq_iff_eq] at hb
    obtain ⟨rfl, hn⟩ := hb
    obtain ⟨a, as, rfl, hn⟩ := one_arg hn
    obtain ⟨s1, s2⟩ := st rfl
    exact s_mt PySem.F.plainAttrs_list PySem.F.slot_list_pop PySem.F.type_list_pop mt_popAt popAtS ho ha (attrBase h0 _ _) few hl s1 s2
  | index =>
    simp only [mtB, Bool.and_eq_true, beq_iff_eq] at hb
    obtain ⟨rfl, hn⟩ := hb
    obtain ⟨a, as, rfl, hn⟩ := one_arg hn
    obtain ⟨s1, s2⟩ := st rfl
    exact s_mt PySem.F.plainAttrs_list PySem.F.slot_list_index PySem.F.type_list_index (mt_indexD (by have := C.room.un; omega)) indexS ho ha (attrBase h0 _ _) few hl s1 s2
  | _ => simp only [mtB] at hb; cases hb
theorem lNotStar {n : Nat} {c : Cc} {e : Expr} {il : IL} (hE : ∀ c e ie, chkE n c e ie = true → notStar e = true) (h : chkL (n + 1) c e il = true) : notStar e = true := by
  unfold chkL at h
  split at h
  · rfl
  · rfl
  · rfl
  · exact hE _ _ _ h
  · cases h
theorem eNotStar : ∀ {n : Nat} {c : Cc} {e : Expr} {ie : IE}, chkE n c e ie = true → notStar e = true
  | 0, _, _, _, h => by simp [chkE] at h
  | n + 1, c, e, ie, h => by
    cases e with
    | Starred a b => unfold chkE at h; simp at h
    | _ => rfl
theorem cmp1_bl {ea : En → Hw → Res W} {o : Cop} {ρ : En} {h h' : Hw} {w : W} (e : ((ea ρ h).bind fun x => cmp o x W.non) = .ok w h') : ∃ k, w = .bl k := cmp_bl (ea := ea) (eb := fun _ h => .ok .non h) (o := o) (ρ := ρ) (h := h) (h' := h') e
theorem compOf {n : Nat} (iE : SE cl n) (iTs : STs cl n) (iI : SI cl n) : SC cl (n + 1) := fun c elt gs scope pos g it ts el own0 h => by
  unfold chkL at h
  split at h
  · rename_i e1 e2
    cases e1
    cases e2
    simp only [Bool.and_eq_true, decide_eq_true_eq, List.all_eq_true] at h
    obtain ⟨⟨⟨⟨⟨⟨⟨h1, h2⟩, h3⟩, h4⟩, h5⟩, h6⟩, h7⟩, h8⟩ := h
    subst h1
    refine ⟨_, _, _, ownOf c scope, rfl, rfl, h2, h4, fun i hi => by simpa using h8 i hi, fun X k Φ Wx C => ⟨iI _ _ _ _ h3 X k Φ Wx C, fun s H A cs fp => ?_⟩⟩
    have C' := C.blk (blk_kind h2) s H A cs fp
    exact ⟨((sndG cl n).1 _ _ _ h5).2.2 _ k Φ noX C', iTs _ _ _ h6 _ k Φ noX C', iE _ _ _ h7 _ k Φ noX C'⟩
  · rename_i e1 e2
    cases e2
  · rename_i e1 e2
    cases e1
  · rename_i e1 e2
    cases e2
  · cases h
theorem compOf2 {n : Nat} (iE : SE cl n) (iTs : STs cl n) (iI : SI cl n) (iJ : SJ cl n) : SC2 cl (n + 1) := fun c elt gs scope pos g it ts g2 it2 ts2 el own0 own2 h => by
  unfold chkL at h
  split at h
  · rename_i e1 e2
    cases e2
  · rename_i e1 e2
    cases e1
    cases e2
    simp only [Bool.and_eq_true, decide_eq_true_eq, List.all_eq_true] at h
    obtain ⟨⟨⟨⟨⟨⟨⟨⟨⟨⟨⟨⟨⟨h1, h2⟩, h3⟩, h4⟩, h5⟩, h6⟩, h7⟩, h8⟩, h9⟩, h10⟩, h11⟩, h12⟩, h13⟩, h14⟩ := h
    subst h1
    refine ⟨_, _, _, _, _, _, ownOf c scope, rfl, rfl, h2, h4, h8, fun i hi => by simpa using h12 i hi, fun i hi => by simpa using h13 i hi, fun i hi => by simpa using h14 i hi, fun X k Φ Wx C => ⟨iI _ _ _ _ h3 X k Φ Wx C, fun s H A cs fp => ?_⟩⟩
    have C' := C.blk (blk_kind h2) s H A cs fp
    exact ⟨((sndG cl n).1 _ _ _ h5).2.2 _ k Φ noX C', iTs _ _ _ h6 _ k Φ noX C', iJ _ _ _ h7 _ _ k Φ noX C', ((sndG cl n).1 _ _ _ h9).2.2 _ k Φ noX C', iTs _ _ _ h10 _ k Φ noX C', iE _ _ _ h11 _ k Φ noX C'⟩
  · rename_i e1 e2
    cases e1
  · rename_i e1 e2
    cases e2
  · cases h
set_option maxRecDepth 200000 in
theorem sndE : ∀ n, SE cl n ∧ SB cl n ∧ SEs cl n ∧ SP' cl n ∧ ST cl n ∧ SW cl n ∧ SL cl n ∧ SC cl n ∧ STs cl n ∧ SI cl n ∧ SC2 cl n ∧ SJ cl n
  | 0 => by
    refine ⟨fun _ _ _ h => ?_, fun _ _ _ _ h => ?_, fun _ _ _ h => ?_, fun _ _ _ h => ?_, fun _ _ _ h => ?_, fun _ _ _ _ h => ?_, fun _ _ _ h => ?_, fun _ _ _ _ _ _ _ _ _ => ?_, fun _ _ _ h => ?_, fun _ _ _ _ h => ?_, fun _ _ _ _ _ _ _ _ _ _ _ _ _ _ h => ?_, fun _ _ _ h => ?_⟩
    · simp [chkE] at h
    · simp [chkB] at h
    · simp [chkEs] at h
    · simp [chkP] at h
    · simp [chkT] at h
    · simp [chkW] at h
    · simp [chkL] at h
    · intro _ h
      simp [chkL] at h
    · simp [chkTs] at h
    · simp [chkI] at h
    · simp [chkL] at h
    · simp [chkJ] at h
  | n + 1 => by
    obtain ⟨iE, iB, iEs, iP, iT, iW, iL, iC, iTs, iI, iC2, iJ⟩ := sndE n
    refine ⟨fun c e ie h X k Φ Wx C => ?_, fun c op es ie h X k Φ Wx pos C => ?_, fun c es ies h => ?_, fun c e ie h X k Φ Wx C => ?_, fun c e it h X k Φ Wx C => ?_, fun c op es it h X k Φ Wx pos C => ?_, fun c e il h X k Φ Wx C => ?_, fun c elt gs scope pos g it ts el own0 h => compOf cl iE iTs iI c elt gs scope pos g it ts el own0 h, fun c es its h X k Φ Wx C => ?_, fun c tg e ii h X k Φ Wx C => ?_, fun c elt gs scope pos g it ts g2 it2 ts2 el own0 own2 h => compOf2 cl iE iTs iI iJ c elt gs scope pos g it ts g2 it2 ts2 el own0 own2 h, fun c e ii h X tg k Φ Wx C => ?_⟩
    · -- expressions
      unfold chkE at h
      split at h
      · simp only [Bool.and_eq_true, decide_eq_true_eq] at h
        obtain ⟨⟨h1, h2⟩, h3⟩ := h
        obtain ⟨o1, o2, _⟩ := okN_of h3
        rw [e_var]
        exact s_var (C.N ▸ h1) (C.vis h2) o1 o2
      · simp only [decide_eq_true_eq] at h
        subst h
        rw [e_cst]; exact s_int
      · simp only [decide_eq_true_eq] at h
        subst h
        rw [e_cst]; exact s_bl
      · simp only [decide_eq_true_eq] at h
        subst h
        rw [e_cst]; exact s_str
      · rw [e_cst]; exact s_non
      · simp only [Bool.and_eq_true] at h
        obtain ⟨r, ho, hs⟩ := opOf cl h.1.1 X
        rw [e_bin]
        exact s_bin ho hs (iE _ _ _ h.1.2 X k Φ Wx C) (iE _ _ _ h.2 X k Φ Wx C)
      · rw [e_neg]; exact s_neg (iE _ _ _ h X k Φ Wx C)
      · rw [e_not, et_val]; exact s_notV (iE _ _ _ h X k Φ Wx C)
      · exact iB _ _ _ _ h X k Φ Wx _ C
      · simp only [Bool.and_eq_true] at h
        rw [e_ite]
        exact s_ite (iT _ _ _ h.1.1 X k Φ Wx C) (iE _ _ _ h.1.2 X k Φ Wx C) (iE _ _ _ h.2 X k Φ Wx C)
      · rw [e_cmp, e_cst]; exact s_isN (c := .Constant .none 0 ⟨0, 0, 0, 0⟩) (iE _ _ _ h X k Φ Wx C)
      · rw [e_cmp, e_cst]; exact s_notN (c := .Constant .none 0 ⟨0, 0, 0, 0⟩) (iE _ _ _ h X k Φ Wx C)
      · simp only [Bool.and_eq_true] at h
        rename_i b _ _ _ _ _ _
        obtain ⟨⟨r, ho, hs⟩, hm⟩ := cmOf cl h.1.1.1 X (by have := C.room.un; omega) b h.1.1.2
        rw [e_cmp]
        exact s_cmp ho hs (iE _ _ _ h.1.2 X k Φ Wx C) (iE _ _ _ h.2 X k Φ Wx C) hm
      · rw [e_tup]; exact s_tup ((iEs _ _ _ h).2 X k Φ Wx C)
      · rw [e_lst]; exact s_lst ((iEs _ _ _ h).2 X k Φ Wx C)
      · obtain ⟨tg, iter, ifs, own, rfl, rfl, hb, hns, hsl, hp⟩ := iC _ _ _ _ _ _ _ _ _ _ h
        obtain ⟨p1, p2⟩ := hp X k Φ Wx C
        rw [e_mk, el_comp]
        exact s_mkLc C.calm (C.N ▸ C.nd) p1 (by rw [C.N, C.sc]; exact blkOk_by hb) (fun s H A cs fp => (p2 s H A cs fp).1) (fun s H A cs fp => (p2 s H A cs fp).2.1) (fun s H A cs fp => (p2 s H A cs fp).2.2) (folded hns _) hsl
      · simp only [Bool.and_eq_true] at h
        rw [e_slc]
        exact s_slc (iE _ _ _ h.1.1 X k Φ Wx C) (iP _ _ _ h.1.2 X k Φ Wx C) (iP _ _ _ h.2 X k Φ Wx C)
      · simp only [Bool.and_eq_true] at h
        rw [e_idx]
        exact s_idx (iE _ _ _ h.1.1 X k Φ Wx C) (iE _ _ _ h.1.2 X k Φ Wx C) (plainIx h.2)
      · simp only [Bool.and_eq_true, decide_eq_true_eq, Bool.not_eq_true'] at h
        obtain ⟨⟨⟨⟨h1, h2⟩, h3⟩, h4⟩, h5⟩ := h
        obtain ⟨hs, ha⟩ := iEs _ _ _ h5
        rename_i f p args pos i es
        cases args with
        | nil => cases h4
        | cons a as =>
          obtain ⟨o1, _, _⟩ := okN_of h3
          have q := hs X.env
          have ns : notStar a = true := by
            cases a <;> first | rfl | (simp [starEach] at q; done)
          have q1 := star1 ns as X.env
          have q2 : starEach as X.env = as.map fun e => (false, eval e X.env) := by
            rw [q1] at q
            simpa using q
          rw [e_call]
          exact s_call (C.fns i f _ h1) C.room (C.gl h2) C.tk (ha X k Φ Wx C) o1 q1 (any_false q2)
      · simp only [Bool.and_eq_true, beq_iff_eq] at h
        obtain ⟨⟨⟨⟨h1, h2⟩, h3⟩, h4⟩, h5⟩ := h
        obtain ⟨g1, g2, g3, g4⟩ := C.bl h2
        obtain ⟨t1, t2, t3, t4⟩ := C.bl h4
        rename_i f p a t p2 pos ty a'
        have ns := eNotStar h5
        rw [e_bi, es_cons, es_nil]
        refine s_isi g2 h1 g1 t2 t1 ?_ t4 t3 (iE _ _ _ h5 X k Φ Wx C) (by rw [star1 ns]; rfl)
        cases ty <;> (simp only [tyB, beq_iff_eq] at h3; subst h3; decide +kernel)
      · simp only [Bool.and_eq_true, Bool.or_eq_true] at h
        obtain ⟨h1, h2⟩ := h
        obtain ⟨hs, ha⟩ := iEs _ _ _ h2
        rw [e_bi]
        rcases h1 with ⟨h1, h3⟩ | ⟨⟨⟨h1, h3⟩, h4⟩, h5⟩
        · exact biOf cl C h1 h3 hs (ha X k Φ Wx C)
        · exact mthOf cl C h1 h3 h4 h5 hs (ha X k Φ Wx C)
      · simp only [Bool.and_eq_true, beq_iff_eq] at h
        obtain ⟨⟨⟨⟨rfl, h2⟩, rfl⟩, h4⟩, h5⟩ := h
        obtain ⟨g1, g2, _, _⟩ := C.bl h2
        obtain ⟨t1, t2, _, _⟩ := C.bl h4
        rw [e_lr1]
        exact s_lr1 C.calm g2 g1 t2 t1 (iE _ _ _ h5 X k Φ Wx C) (star1 (eNotStar h5) [] _)
      · simp only [Bool.and_eq_true, beq_iff_eq] at h
        obtain ⟨⟨⟨⟨⟨rfl, h2⟩, rfl⟩, h4⟩, h5⟩, h6⟩ := h
        obtain ⟨g1, g2, _, _⟩ := C.bl h2
        obtain ⟨t1, t2, _, _⟩ := C.bl h4
        rw [e_lr2]
        exact s_lr2 C.calm g2 g1 t2 t1 (iE _ _ _ h5 X k Φ Wx C) (iE _ _ _ h6 X k Φ Wx C) (by rw [star1 (eNotStar h5), star1 (eNotStar h6)]; rfl) (star1 (eNotStar h6) [] _)
      · simp only [Bool.and_eq_true, beq_iff_eq] at h
        obtain ⟨⟨⟨rfl, h2⟩, h3⟩, h4⟩ := h
        rw [e_mt, es_nil]
        exact s_mt0 PySem.F.plainAttrs_list PySem.F.slot_list_pop PySem.F.type_list_pop mt_pop popS (iE _ _ _ h4 X k Φ Wx C) (attrBase h3 _ _) (by simpa using h2)
      · simp only [Bool.and_eq_true, beq_iff_eq, decide_eq_true_eq] at h
        obtain ⟨⟨⟨⟨h1, h2⟩, h3⟩, h4⟩, h5⟩ := h
        subst h3
        subst h4
        obtain ⟨g1, g2, _, _⟩ := C.bl h2
        rw [e_maxD]
        refine s_maxD C.calm h1 g2 g1 (iL _ _ _ h5 X k Φ Wx C) (star1 ?_ [] _)
        cases n with
        | zero => simp [chkL] at h5
        | succ n => exact lNotStar (fun _ _ _ => eNotStar) h5
      · simp only [Bool.and_eq_true, beq_iff_eq] at h
        obtain ⟨⟨h1, h2⟩, h3⟩ := h
        obtain ⟨g1, g2, _, _⟩ := C.bl h2
        rw [e_srt]
        refine s_srt h1 g2 g1 (iL _ _ _ h3 X k Φ Wx C) (star1 ?_ [] _)
        cases n with
        | zero => simp [chkL] at h3
        | succ n => exact lNotStar (fun _ _ _ => eNotStar) h3
      · simp only [Bool.and_eq_true, beq_iff_eq] at h
        obtain ⟨⟨h1, h2⟩, h3⟩ := h
        obtain ⟨g1, g2, _, _⟩ := C.bl h2
        rw [e_aa]
        refine s_aa C.calm h1 g2 g1 (iL _ _ _ h3 X k Φ Wx C) (star1 ?_ [] _)
        cases n with
        | zero => simp [chkL] at h3
        | succ n => exact lNotStar (fun _ _ _ => eNotStar) h3
      · simp only [Bool.and_eq_true, beq_iff_eq] at h
        obtain ⟨⟨⟨⟨⟨rfl, h2⟩, rfl⟩, h4⟩, h5⟩, h6⟩ := h
        obtain ⟨g1, g2, _, _⟩ := C.bl h2
        obtain ⟨t1, t2, _, _⟩ := C.bl h4
        rw [e_tr2]
        exact s_tr2 C.calm g2 g1 t2 t1 (iE _ _ _ h5 X k Φ Wx C) (iE _ _ _ h6 X k Φ Wx C) (by rw [star1 (eNotStar h5), star1 (eNotStar h6)]; rfl) (star1 (eNotStar h6) [] _)
      · simp only [Bool.and_eq_true] at h
        obtain ⟨⟨h1, h2⟩, h3⟩ := h
        rw [e_bl]
        refine blOf cl C h1 h2 ?_ (iL _ _ _ h3 X k Φ Wx C)
        cases n with
        | zero => simp [chkL] at h3
        | succ n => exact lNotStar (fun _ _ _ => eNotStar) h3
      · simp only [Bool.and_eq_true, List.any_eq_true, beq_iff_eq] at h
        obtain ⟨⟨⟨p, hp, rfl, h2⟩, h3⟩, h4⟩ := h
        obtain ⟨v, hv, cv⟩ := C.cns p hp
        rw [W.eqb_eq h2] at cv
        rw [e_glc]
        exact s_glc (C.gl h3) hv cv (okN_of h4).1
      · simp only [Bool.and_eq_true, beq_iff_eq] at h
        obtain ⟨⟨rfl, h2⟩, h3⟩ := h
        obtain ⟨g1, g2, _, _⟩ := C.bl h2
        rw [e_rgN]
        exact s_rgN g2 g1 (iE _ _ _ h3 X k Φ Wx C) (star1 (eNotStar h3) [] _)
      · simp only [Bool.and_eq_true, beq_iff_eq] at h
        obtain ⟨⟨⟨⟨rfl, h2⟩, rfl⟩, h4⟩, h5⟩ := h
        obtain ⟨g1, g2, _, _⟩ := C.bl h2
        obtain ⟨t1, t2, _, _⟩ := C.bl h4
        rw [e_srtD]
        refine s_srtD C.calm g2 g1 t2 t1 (iL _ _ _ h5 X k Φ Wx C) (star1 ?_ [] _)
        cases n with
        | zero => simp [chkL] at h5
        | succ n => exact lNotStar (fun _ _ _ => eNotStar) h5
      · obtain ⟨tg, iter, ifs, tg1, iter1, ifs1, own, rfl, rfl, hb, hns, hns1, hsl, hsl1, hv, hp⟩ := iC2 _ _ _ _ _ _ _ _ _ _ _ _ _ _ h
        obtain ⟨p1, p2⟩ := hp X k Φ Wx C
        rw [e_mk, el_comp2]
        exact s_mkLc2 C.calm (C.N ▸ C.nd) p1 (by rw [C.N, C.sc]; exact blkOk_by hb) hv p2 (folded hns _) (fun env x => folded hns1 env x) hsl hsl1
      · simp only [Bool.and_eq_true, decide_eq_true_eq] at h
        obtain ⟨⟨⟨⟨⟨h1, h2⟩, h3⟩, h4⟩, h5⟩, h6⟩ := h
        obtain ⟨hs, ha⟩ := iEs _ _ _ h6
        rw [e_mt]
        exact mtOf cl C h1 h2 h3 h4 hs (iE _ _ _ h5 X k Φ Wx C) (ha X k Φ Wx C)
      · cases h
    · -- and, or, as values
      unfold chkB at h
      split at h
      · exact s_one (iE _ _ _ h X k Φ Wx C)
      · simp only [Bool.and_eq_true] at h
        rw [e_and]
        exact s_and (iE _ _ _ h.1 X k Φ Wx C) (iB _ _ _ _ h.2 X k Φ Wx _ C)
      · simp only [Bool.and_eq_true] at h
        rw [e_or]
        exact s_or (iE _ _ _ h.1 X k Φ Wx C) (iB _ _ _ _ h.2 X k Φ Wx _ C)
      · cases h
    · -- arguments
      unfold chkEs at h
      split at h
      · exact ⟨fun _ => rfl, fun X k Φ Wx C => by rw [es_nil]; exact s_anil⟩
      · simp only [Bool.and_eq_true] at h
        obtain ⟨⟨h1, h2⟩, h3⟩ := h
        obtain ⟨hs, ha⟩ := iEs _ _ _ h3
        refine ⟨fun env => by rw [star1 h1, hs]; rfl, fun X k Φ Wx C => ?_⟩
        rw [es_cons]
        exact s_acons (iE _ _ _ h2 X k Φ Wx C) (ha X k Φ Wx C) (star1 h1 _ _)
      · cases h
    · unfold chkP at h
      split at h
      · rw [ep_no]; exact s_pno
      · rw [ep_at]; exact s_pat (iE _ _ _ h X k Φ Wx C)
      · cases h
    · -- tests
      unfold chkT at h
      split at h
      · rw [et_not]; exact s_tnot (iT _ _ _ h X k Φ Wx C)
      · exact (iW _ _ _ _ h X k Φ Wx _ C).pt
      · rename_i a _ _ _ _ a'
        rw [et_val, e_cmp, e_cst]
        exact conseqT (pt_cmp (pc_isN (iE _ _ _ h X k Φ Wx C))) fun σ H Q z => tTestOf (t := tIsN (tE (gx X cl) Wx (evE Φ a'))) (fun σ H Q z => tR.bind z fun m ρ wa x h H1 rs rh ra z1 => isNS rh ra z1) (fun ρ h w h' e => cmp1_bl e) z
      · rename_i a _ _ _ _ a'
        rw [et_val, e_cmp, e_cst]
        exact conseqT (pt_cmp (pc_notN (iE _ _ _ h X k Φ Wx C))) fun σ H Q z => tTestOf (t := tNotN (tE (gx X cl) Wx (evE Φ a'))) (fun σ H Q z => tR.bind z fun m ρ wa x h H1 rs rh ra z1 => notNS rh ra z1) (fun ρ h w h' e => cmp1_bl e) z
      · simp only [Bool.and_eq_true] at h
        rename_i b _ _ _ _ _ _
        obtain ⟨⟨r, ho, hs⟩, hm⟩ := cmOf cl h.1.1.1 X (by have := C.room.un; omega) b h.1.1.2
        rw [et_val, e_cmp]
        exact conseqT (pt_cmpR ho (iE _ _ _ h.1.2 X k Φ Wx C) (iE _ _ _ h.2 X k Φ Wx C) hm) fun σ H Q z => tTestOf (fun σ H Q z => t2 hs z) (fun ρ h w h' e => cmp_bl e) z
      · simp only [Bool.and_eq_true] at h
        rw [et_val]
        exact s_tval (iE _ _ _ h.2 X k Φ Wx C) (plain_isTrue h.1 _)
      · cases h
    · unfold chkW at h
      split at h
      · cases op with
        | And => exact s_tand1 (iT _ _ _ h X k Φ Wx C)
        | Or => exact s_tor1 (iT _ _ _ h X k Φ Wx C)
      · simp only [Bool.and_eq_true] at h
        rw [et_and]
        exact s_tand (iT _ _ _ h.1 X k Φ Wx C) (iW _ _ _ _ h.2 X k Φ Wx _ C)
      · simp only [Bool.and_eq_true] at h
        rw [et_or]
        exact s_tor (iT _ _ _ h.1 X k Φ Wx C) (iW _ _ _ _ h.2 X k Φ Wx _ C)
      · cases h
    · -- items
      unfold chkL at h
      split at h
      · rename_i elt tg iter ifs scope pos g it ts el own
        obtain ⟨tg', iter', ifs', own', e1, e2, hb, hns, hsl, hp⟩ := compOf cl iE iTs iI c elt [⟨tg, iter, ifs, 0⟩] scope pos g it ts el own (by unfold chkL; exact h)
        cases e1
        subst e2
        obtain ⟨p1, p2⟩ := hp X k Φ Wx C
        rw [el_comp]
        exact s_lc C.calm (C.N ▸ C.nd) p1 (by rw [C.N, C.sc]; exact blkOk_by hb) (fun s H A cs fp => (p2 s H A cs fp).1) (fun s H A cs fp => (p2 s H A cs fp).2.1) (fun s H A cs fp => (p2 s H A cs fp).2.2) (folded hns _) hsl
      · rename_i elt tg iter ifs tg1 iter1 ifs1 scope pos g it ts g2 it2 ts2 el own own2
        obtain ⟨tg', iter', ifs', tg1', iter1', ifs1', own', e1, e2, hb, hns, hns1, hsl, hsl1, hv, hp⟩ := compOf2 cl iE iTs iI iJ c elt [⟨tg, iter, ifs, 0⟩, ⟨tg1, iter1, ifs1, 0⟩] scope pos g it ts g2 it2 ts2 el own own2 (by unfold chkL; exact h)
        cases e1
        subst e2
        obtain ⟨p1, p2⟩ := hp X k Φ Wx C
        rw [el_comp2]
        exact s_lc2 C.calm (C.N ▸ C.nd) p1 (by rw [C.N, C.sc]; exact blkOk_by hb) hv p2 (folded hns _) (fun env x => folded hns1 env x) hsl hsl1
      · rw [el_disp]; exact s_disp ((iEs _ _ _ h).2 X k Φ Wx C)
      · rw [el_of]; exact s_of (iE _ _ _ h X k Φ Wx C)
      · cases h
    · unfold chkTs at h
      split at h
      · rw [ets_nil]
        exact ⟨fun pins s σ H Q I z => pts_nil.run pins s σ H Q I (by obtain ⟨m, ρ, h, rs, rh, z⟩ := z; exact z.here rh rfl)⟩
      · rw [ets_cons, ets_nil]
        exact ⟨fun pins s σ H Q I z => (pts_one (iT _ _ _ h X k Φ Wx C)).run pins s σ H Q I (tR.bind z fun m ρ wa x h H1 rs rh ra z1 => by
          rw [show x = wa from ra]
          cases wa with
          | true => exact RV.here (R := Same) z1 rh rfl
          | false => exact RV.here (R := Same) z1 rh rfl)⟩
      · cases h
    · -- what is walked
      have lns : ∀ {c e il}, chkL n c e il = true → notStar e = true := fun {c e il} h => by
        cases n with
        | zero => simp [chkL] at h
        | succ n => exact lNotStar (fun _ _ _ => eNotStar) h
      unfold chkI at h
      split at h
      · simp only [Bool.and_eq_true, beq_iff_eq] at h
        obtain ⟨⟨⟨rfl, h2⟩, h3⟩, h4⟩ := h
        obtain ⟨g1, g2, g3, g4⟩ := C.bl h2
        rw [ei_rng1]
        exact s_rng1 g2 g1 (iE _ _ _ h4 X k Φ Wx C) (star1 h3 [] _)
      · simp only [Bool.and_eq_true, beq_iff_eq] at h
        obtain ⟨⟨⟨⟨⟨rfl, h2⟩, h3⟩, h4⟩, h5⟩, h6⟩ := h
        obtain ⟨g1, g2, g3, g4⟩ := C.bl h2
        rw [ei_rng2]
        exact s_rng2 g2 g1 (iE _ _ _ h5 X k Φ Wx C) (iE _ _ _ h6 X k Φ Wx C) (by rw [star1 h3, star1 h4]; rfl) (star1 h4 [] _)
      · simp only [Bool.and_eq_true, beq_iff_eq] at h
        obtain ⟨⟨⟨⟨⟨⟨rfl, h2⟩, h3⟩, h4⟩, h5⟩, h6⟩, h7⟩ := h
        obtain ⟨g1, g2, g3, g4⟩ := C.bl h2
        rw [ei_zip]
        cases tg <;> first
          | (simp only [isTupE] at h5; cases h5; done)
          | exact s_zip g2 g1 (iL _ _ _ h6 X k Φ Wx C) (iL _ _ _ h7 X k Φ Wx C) (star1 h3 _ _) (star1 h4 [] _)
      · simp only [Bool.and_eq_true, beq_iff_eq] at h
        obtain ⟨⟨⟨⟨rfl, h2⟩, h3⟩, h4⟩, h5⟩ := h
        obtain ⟨g1, g2, g3, g4⟩ := C.bl h2
        rw [ei_enum]
        cases tg <;> first
          | (simp only [isTupE] at h4; cases h4; done)
          | exact s_enum g2 g1 (iL _ _ _ h5 X k Φ Wx C) (star1 h3 [] _)
      · simp only [Bool.and_eq_true, beq_iff_eq] at h
        obtain ⟨⟨⟨⟨⟨rfl, h2⟩, h3⟩, h4⟩, h5⟩, h6⟩ := h
        obtain ⟨g1, g2, g3, g4⟩ := C.bl h2
        rw [ei_rng3]
        exact s_rng3 g2 g1 (iE _ _ _ h5 X k Φ Wx C) (iE _ _ _ h6 X k Φ Wx C) (star1 h3) (star1 h4)
      · rw [ei_rgv]; exact s_rgv (iE _ _ _ h X k Φ Wx C)
      · rw [ei_of]; exact s_iL (iL _ _ _ h X k Φ Wx C)
      · cases h
    · -- what is walked within a turn
      unfold chkJ at h
      split at h
      · simp only [Bool.and_eq_true, beq_iff_eq] at h
        obtain ⟨⟨⟨rfl, h2⟩, h3⟩, h4⟩ := h
        obtain ⟨g1, g2, g3, g4⟩ := C.bl h2
        rw [ei_rng1]
        exact s_rng1' g2 g1 (iE _ _ _ h4 X k Φ Wx C) (star1 h3 [] _)
      · simp only [Bool.and_eq_true, beq_iff_eq] at h
        obtain ⟨⟨⟨⟨⟨rfl, h2⟩, h3⟩, h4⟩, h5⟩, h6⟩ := h
        obtain ⟨g1, g2, g3, g4⟩ := C.bl h2
        rw [ei_rng2]
        exact s_rng2' g2 g1 (iE _ _ _ h5 X k Φ Wx C) (iE _ _ _ h6 X k Φ Wx C) (by rw [star1 h3, star1 h4]; rfl) (star1 h4 [] _)
      · rw [ei_of, el_of]; exact s_iv' (iE _ _ _ h X k Φ Wx C)
      · cases h
end
end Ev

set_option Elab.async false
set_option linter.all false
set_option maxRecDepth 100000
set_option maxHeartbeats 8000000
/-! EvD: the judgement of every statement that fits; defs; a whole text. -/
namespace Ev
open PySem PySem.Spec PyProof.Rows L2
section
variable (Φ : Fn)
theorem v_expr (e : IE) : evS Φ (.expr e) = fun ρ h => (evE Φ e ρ h).st ρ fun _ h => .ok (.next, ρ) h := by funext ρ h; rw [evS] <;> rfl
theorem v_asg (t : IG) (e : IE) : evS Φ (.asg t e) = fun ρ h => (evE Φ e ρ h).st ρ fun x h => match asg t x ρ with
    | some ρ' => .ok (.next, ρ') h
    | none => .err := by funext ρ h; rw [evS] <;> rfl
theorem v_set (o i e : IE) : evS Φ (.set o i e) = fun ρ h => (evE Φ e ρ h).st ρ fun v h => (evE Φ o ρ h).st ρ fun x h => (evE Φ i ρ h).st ρ fun y h => match setIt x y v h with
    | some h' => .ok (.next, ρ) h'
    | none => .err := by funext ρ h; rw [evS] <;> rfl
theorem v_aug (i : Nat) (o : Bop) (e : IE) : evS Φ (.aug i o e) = fun ρ h => match ρ[i]? with
    | some (some x) => (evE Φ e ρ h).st ρ fun y h => match o, x, y with
      | .add, .int a, .int b => .ok (.next, ρ.set i (some (.int (a + b)))) h
      | .sub, .int a, .int b => .ok (.next, ρ.set i (some (.int (a - b)))) h
      | _, _, _ => .err
    | _ => .err := by funext ρ h; rw [evS] <;> rfl
theorem v_augS (o i : IE) (p : Bop) (e : IE) : evS Φ (.augS o i p e) = fun ρ h => (evE Φ o ρ h).st ρ fun x h => (evE Φ i ρ h).st ρ fun y h => (itemL x y h).st ρ fun w h => (evE Φ e ρ h).st ρ fun v h => match augO p w v with
    | some z => (match setIt x y z h with
      | some h' => .ok (.next, ρ) h'
      | none => .err)
    | none => .err := by funext ρ h; rw [evS] <;> rfl
theorem v_bad : evS Φ .bad = fun _ _ => .err := by funext ρ h; rw [evS] <;> rfl
theorem v_ifs (c : IT) (a b : ISs) : evS Φ (.ifs c a b) = fun ρ h => (evT Φ c ρ h).st ρ fun k h => if k = true then evSs Φ a ρ h else evSs Φ b ρ h := by funext ρ h; rw [evS] <;> rfl
theorem v_for (t : IG) (it : II) (b : ISs) : evS Φ (.for t it b) = fun ρ h => (evI Φ it ρ h).st ρ fun q h => forL t q.2 (evSs Φ b) q.1 ρ h := by funext ρ h; rw [evS] <;> rfl
theorem v_whl (c : IT) (b : ISs) : evS Φ (.whl c b) = fun ρ h => whl (evT Φ c) (evSs Φ b) ρ h := by funext ρ h; rw [evS] <;> rfl
theorem v_ret (e : IE) : evS Φ (.ret e) = fun ρ h => (evE Φ e ρ h).st ρ fun x h => .ok (.ret x, ρ) h := by funext ρ h; rw [evS] <;> rfl
theorem v_retN : evS Φ .retN = fun ρ h => .ok (.ret .non, ρ) h := by funext ρ h; rw [evS] <;> rfl
theorem v_brk : evS Φ .brk = fun ρ h => .ok (.brk, ρ) h := by funext ρ h; rw [evS] <;> rfl
theorem v_cont : evS Φ .cont = fun ρ h => .ok (.cont, ρ) h := by funext ρ h; rw [evS] <;> rfl
theorem v_pass : evS Φ .pass = fun ρ h => .ok (.next, ρ) h := by funext ρ h; rw [evS] <;> rfl
theorem vs_nil : evSs Φ .nil = fun ρ h => .ok (.next, ρ) h := by funext ρ h; rw [evSs] <;> rfl
theorem vs_cons (s : IS) (ss : ISs) : evSs Φ (.cons s ss) = fun ρ h => match evS Φ s ρ h with
    | .ok (.next, ρ) h => evSs Φ ss ρ h
    | .ok (f, ρ) h => .ok (f, ρ) h
    | _ => .err := by funext ρ h; rw [evSs] <;> rfl
end
section
variable (cl : List Value)
def SS (n : Nat) : Prop := ∀ c s is, chkS n c s is = true → ∀ (X : Cx) k Φ Wx, Ctx X cl c k Φ Wx → PS X s (tS (gx X cl) Wx (evS Φ is))
def SSs (n : Nat) : Prop := ∀ c ss iss, chkSs n c ss iss = true → ∀ (X : Cx) k Φ Wx, Ctx X cl c k Φ Wx → PSs X ss (tS (gx X cl) Wx (evSs Φ iss))
theorem assign1 {tg : Expr} (h : notStar tg = true) (env : Env) : (assignEach [tg] env).map (·.2) = [assign tg env] := by
  rw [asg1 h]; rfl
theorem sub_assign {o i : Expr} {p2 : Pos} (h : notSlice i = true) (env : Env) (v : Value) : assign (.Subscript o i p2) env v = (do
      let ov ← holding [v] (eval o env)
      let iv ← holding [v, ov] (eval i env)
      standAt p2
      holding [v, ov, iv] (setItem ov iv v)
      release [v, ov, iv] []) := by
  cases i <;> first | rfl | (simp only [notSlice] at h; cases h)
theorem aug_store {i : Expr} (h : notSlice i = true) (ov iv new : Value) : augStore i ov iv new = (do holding [new, ov, iv] (setItem ov iv new); release [new, ov, iv] []; pure .next) := by
  cases i <;> first | rfl | (simp only [notSlice] at h; cases h)
theorem swap_true {X : Cx} {c : Cc} {y : Str} {py pos : Pos} {elt : Expr} {gs : List Comprehension} {scope : Scope} {l : Nat} (hk : X.env.scope.kind = .function) (hs : X.env.scope = c.sc) (h : swapB c y py scope pos = true) :
    X.env.scope.names.lookup y = some .local ∧ swapsWith (.ListComp elt gs scope pos) (some (.Name y py)) l X.env = pure true := by
  unfold swapB at h
  simp only [Bool.and_eq_true, Bool.not_eq_true'] at h
  obtain ⟨⟨h1, h2⟩, h3⟩ := h
  split at h1
  · rename_i e
    rw [← hs] at e
    exact ⟨e, sw_true hk e h2 h3⟩
  · cases h1
theorem cell_false {X : Cx} {c : Cc} {y : Str} {py pos : Pos} {elt : Expr} {gs : List Comprehension} {scope : Scope} {l : Nat} (hs : X.env.scope = c.sc) (h : cellB c y = true) :
    swapsWithSole [.Name y py] (.ListComp elt gs scope pos) l X.env = pure false := by
  unfold cellB at h
  split at h
  · rename_i e
    rw [← hs] at e
    show pure (X.env.blockKind == .function && X.env.kindOf y == some .local && py.line == pos.line && !(scope.names.any fun (n, k) => n == y && (k == .local || k == .cell))) = _
    have : X.env.kindOf y = some .cell := e
    have nk : (some NameKind.cell == some NameKind.local) = false := by decide
    rw [this, nk]
    simp only [Bool.and_false, Bool.false_and]
  · cases h
theorem sndS : ∀ n, SS cl n ∧ SSs cl n
  | 0 => ⟨fun _ _ _ h => by simp [chkS] at h, fun _ _ _ h => by simp [chkSs] at h⟩
  | n + 1 => by
    obtain ⟨iS, iSs⟩ := sndS n
    obtain ⟨iE, iB, iEs, iP, iT, iW, iL, iC, iTs, iI, iC2, iJ⟩ := sndE cl n
    refine ⟨fun c s is h X k Φ Wx C => ?_, fun c ss iss h X k Φ Wx C => ?_⟩
    · unfold chkS at h
      split at h
      · rw [v_pass]; exact ss_doc
      · simp only [Bool.and_eq_true] at h
        rw [v_expr]
        exact ss_expr (iE _ _ _ h.2 X k Φ Wx C) (noSwap h.1 _ _ _)
      · rw [Bool.or_eq_true] at h
        rcases h with h | h
        · simp only [Bool.and_eq_true, decide_eq_true_eq] at h
          obtain ⟨⟨h1, h2⟩, h3⟩ := h
          obtain ⟨tg, iter, ifs, own, rfl, rfl, hb, hns, hsl, hp⟩ := iC _ _ _ _ _ _ _ _ _ _ h3
          obtain ⟨p1, p2⟩ := hp X k Φ Wx C
          obtain ⟨hyl, hsw⟩ := swap_true C.kind C.sc h2
          rw [v_asg, e_mk, el_comp]
          exact ss_setLc C.calm (C.N ▸ C.nd) (C.N ▸ h1) hyl hsw p1 (by rw [C.N, C.sc]; exact blkOk_by hb) (fun s H A cs fp => (p2 s H A cs fp).1) (fun s H A cs fp => (p2 s H A cs fp).2.1) (fun s H A cs fp => (p2 s H A cs fp).2.2) (folded hns _) hsl
        · simp only [Bool.and_eq_true] at h
          obtain ⟨⟨h1, h2⟩, h3⟩ := h
          obtain ⟨g1, g2, g3⟩ := (sndG cl n).1 _ _ _ h2
          rw [v_asg]
          refine ss_asg (iE _ _ _ h3 X k Φ Wx C) (g3 X k Φ Wx C) (cell_false C.sc h1) ?_ (assign1 g1 _)
          rcases noStores (e := .ListComp _ _ _ _) (tg := .Name _ _) (by simp [isTupE]) X.env with e | ⟨es, p, e⟩
          · exact e
          · cases e
      · simp only [Bool.and_eq_true] at h
        obtain ⟨⟨⟨⟨h1, h2⟩, h3⟩, h4⟩, h5⟩ := h
        rw [v_set]
        refine ss_set (iE _ _ _ h5 X k Φ Wx C) (iE _ _ _ h3 X k Φ Wx C) (iE _ _ _ h4 X k Φ Wx C) (sub_assign h2 _) (noSole h1 _ _) ?_ (assign1 rfl _)
        rcases noStores (tg := .Subscript _ _ _) (by simp [isTupE]) X.env with e | ⟨_, _, e⟩
        · exact e
        · cases e
      · simp only [Bool.and_eq_true, Bool.not_eq_true'] at h
        obtain ⟨⟨⟨h1, h2⟩, h3⟩, h4⟩ := h
        obtain ⟨g1, g2, g3⟩ := (sndG cl n).1 _ _ _ h3
        rw [v_asg]
        refine ss_asg (iE _ _ _ h4 X k Φ Wx C) (g3 X k Φ Wx C) (noSole h1 _ _) ?_ (assign1 g1 _)
        rcases noStores h2 X.env with e | ⟨es, p, e⟩
        · exact e
        · subst e
          rcases g2 with g2 | ⟨_, _, g2⟩
          · simp [isTupE] at g2
          · cases g2
      · simp only [Bool.and_eq_true, decide_eq_true_eq] at h
        obtain ⟨⟨h1, h2⟩, h3⟩ := h
        obtain ⟨s1, s2⟩ := C.sto h2
        rw [v_aug]
        exact ss_augAdd (C.N ▸ C.nd) (C.N ▸ h1) s1 (iE _ _ _ h3 X k Φ Wx C) s2
      · simp only [Bool.and_eq_true, decide_eq_true_eq] at h
        obtain ⟨⟨h1, h2⟩, h3⟩ := h
        obtain ⟨s1, s2⟩ := C.sto h2
        rw [v_aug]
        exact ss_augSub (C.N ▸ C.nd) (C.N ▸ h1) s1 (iE _ _ _ h3 X k Φ Wx C) s2
      · simp only [Bool.and_eq_true] at h
        obtain ⟨⟨⟨h1, h2⟩, h3⟩, h4⟩ := h
        rw [v_augS]
        exact ss_augSub1 ip_add (iE _ _ _ h2 X k Φ Wx C) (iE _ _ _ h3 X k Φ Wx C) (iE _ _ _ h4 X k Φ Wx C) augO_add (aug_store h1)
      · simp only [Bool.and_eq_true] at h
        obtain ⟨⟨⟨h1, h2⟩, h3⟩, h4⟩ := h
        rw [v_augS]
        exact ss_augSub1 ip_sub (iE _ _ _ h2 X k Φ Wx C) (iE _ _ _ h3 X k Φ Wx C) (iE _ _ _ h4 X k Φ Wx C) augO_sub (aug_store h1)
      · rw [v_bad]
        refine ⟨fun pins s σ H D I h => ?_⟩
        obtain ⟨m, ρ, h, rs, rh, z⟩ := h
        exact z.no
      · simp only [Bool.and_eq_true] at h
        obtain ⟨⟨h1, h2⟩, h3⟩ := h
        rw [v_ifs]
        exact ss_if (iT _ _ _ h1 X k Φ Wx C) (iSs _ _ _ h2 X k Φ Wx C) (iSs _ _ _ h3 X k Φ Wx C)
      · simp only [Bool.and_eq_true] at h
        obtain ⟨⟨⟨h1, h2⟩, h3⟩, h4⟩ := h
        rw [v_for]
        exact ss_for C.pass C.calm (iI _ _ _ _ h2 X k Φ Wx C) (((sndG cl n).1 _ _ _ h1).2.2 X k Φ Wx C) (iSs _ _ _ h4 X k Φ Wx C) (folded h3 _)
      · simp only [Bool.and_eq_true] at h
        rw [v_whl]
        exact ss_while C.pass (iT _ _ _ h.1 X k Φ Wx C) (iSs _ _ _ h.2 X k Φ Wx C)
      · rw [v_ret]; exact ss_ret (iE _ _ _ h X k Φ Wx C)
      · rw [v_retN]; exact ss_retN
      · rw [v_brk]; exact ss_brk
      · rw [v_cont]; exact ss_cont
      · rw [v_pass]; exact ss_pass
      · cases h
    · unfold chkSs at h
      split at h
      · rw [vs_nil]; exact ss_nil
      · simp only [Bool.and_eq_true] at h
        rw [vs_cons]
        exact ss_cons (iS _ _ _ h.1 X k Φ Wx C) (iSs _ _ _ h.2 X k Φ Wx C)
      · cases h
end
end Ev

set_option Elab.async false
set_option linter.all false
set_option maxRecDepth 100000
set_option maxHeartbeats 4000000
/-! EvE: a def, a text of defs. -/
namespace Ev
open PySem PySem.Spec PyProof.Rows L2
section
variable {G : GX} {K : PySem.W.Frag} {m m' m2 : List Addr} {H H' : Hp} {h h' : Hw}
mutual
theorem Rep.blw : ∀ {w : W} {v : V}, Rep K H m w v → w.blw m.length
  | .non, _, _ => by unfold W.blw; trivial
  | .bl _, _, _ => by unfold W.blw; trivial
  | .int _, _, _ => by unfold W.blw; trivial
  | .str _, _, _ => by unfold W.blw; trivial
  | .tup xs, _, r => by
    unfold Rep at r
    obtain ⟨a, vs, e, s, q⟩ := r
    unfold W.blw; exact RepL.blw q
  | .fl xs, _, r => by
    unfold Rep at r
    obtain ⟨a, vs, e, s, q⟩ := r
    unfold W.blw; exact RepL.blw q
  | .ref n, _, r => by
    unfold Rep at r
    obtain ⟨a, e, q⟩ := r
    unfold W.blw; exact (List.getElem?_eq_some_iff.mp e).1
  | .rg _ _, _, _ => by unfold W.blw; trivial
theorem RepL.blw : ∀ {ws : List W} {vs : List V}, RepL K H m ws vs → W.blws m.length ws
  | [], _, _ => by unfold W.blws; trivial
  | w :: ws, _, r => by
    obtain ⟨v, q, rfl, r1, r2⟩ := r.uncons
    unfold W.blws; exact ⟨Rep.blw r1, RepL.blw r2⟩
end
mutual
theorem Rep.sub {n : Nat} (h1 : ∀ i, i < n → m2[i]? = m[i]?) (h2 : ∀ b ∈ m2, b ∈ m) : ∀ {w : W} {v : V}, Rep K H m w v → w.blw n → Rep K H m2 w v
  | .non, _, r, _ => by unfold Rep at r ⊢; exact r
  | .bl _, _, r, _ => by unfold Rep at r ⊢; exact r
  | .int _, _, r, _ => by unfold Rep at r ⊢; exact r
  | .str _, _, r, _ => by unfold Rep at r ⊢; exact r
  | .tup xs, _, r, b => by
    unfold Rep at r ⊢
    unfold W.blw at b
    obtain ⟨a, vs, e, s, q⟩ := r
    exact ⟨a, vs, e, s.elim (fun z => .inl ⟨z.1, fun y => z.2 (h2 _ y)⟩) .inr, RepL.sub h1 h2 q b⟩
  | .fl xs, _, r, b => by
    unfold Rep at r ⊢
    unfold W.blw at b
    obtain ⟨a, vs, e, s, q⟩ := r
    exact ⟨a, vs, e, s.elim (fun z => .inl ⟨z.1, fun y => z.2 (h2 _ y)⟩) .inr, RepL.sub h1 h2 q b⟩
  | .ref n, _, r, b => by
    unfold Rep at r ⊢
    unfold W.blw at b
    obtain ⟨a, e, q⟩ := r
    exact ⟨a, by rw [h1 _ b]; exact e, q⟩
  | .rg _ _, _, r, _ => by
    unfold Rep at r ⊢
    obtain ⟨a, e, q, n⟩ := r
    exact ⟨a, e, q, fun y => n (h2 _ y)⟩
theorem RepL.sub {n : Nat} (h1 : ∀ i, i < n → m2[i]? = m[i]?) (h2 : ∀ b ∈ m2, b ∈ m) : ∀ {ws : List W} {vs : List V}, RepL K H m ws vs → W.blws n ws → RepL K H m2 ws vs
  | [], _, r, _ => by unfold RepL at r ⊢; exact r
  | w :: ws, _, r, b => by
    obtain ⟨v, q, rfl, r1, r2⟩ := r.uncons
    unfold W.blws at b
    exact .cons (Rep.sub h1 h2 r1 b.1) (RepL.sub h1 h2 r2 b.2)
end
theorem old_blw (rh : RelH K m H h) (ok : OldOk h h') {i : Nat} {o : O} (hi : i < h.length) (e : h'[i]? = some o) : o.blw h.length := by
  rcases ok.2 i o hi e with q | q
  · obtain ⟨a, _, r⟩ := rh.at q
    cases o with
    | lst xs =>
      obtain ⟨vs, _, r⟩ := r
      have := r.blw
      rw [rh.len] at this
      exact this
    | dic _ => exact r.elim
  · exact q
theorem tidy_ok {w : W} {v : V} (rh : RelH K m H h) (n : Nx m H m' H') (rh' : RelH K m' H' h') (r : Rep K H' m' w v) :
    ∃ m2 w2 h2, tidy h w h' = .ok w2 h2 ∧ Nx m H m2 H' ∧ RelH K m2 H' h2 ∧ Rep K H' m2 w2 v := by
  have same : ∃ m2 w2 h2, (Res.ok w h' : Res W) = .ok w2 h2 ∧ Nx m H m2 H' ∧ RelH K m2 H' h2 ∧ Rep K H' m2 w2 v := ⟨m', w, h', rfl, n, rh', r⟩
  obtain ⟨t, rfl⟩ := n.pre
  have n0 : Nx m H m H' := ⟨⟨[], by simp⟩, n.fr, fun _ a b => absurd a b⟩
  have ix : ∀ i, i < h.length → m[i]? = (m ++ t)[i]? := fun i hi => by rw [List.getElem?_append_left (by rw [rh.len]; exact hi)]
  unfold tidy
  by_cases ok : OldOk h h'
  · rw [if_pos ok]
    have lt : (h'.take h.length).length = h.length := by rw [List.length_take]; exact Nat.min_eq_left ok.1
    have base : RelH K m H' (h'.take h.length) := by
      refine ⟨rh.nd, by rw [lt, rh.len], fun i a o e1 e2 => ?_⟩
      have hi : i < h.length := by rw [← rh.len]; exact (List.getElem?_eq_some_iff.mp e1).1
      rw [List.getElem?_take_of_lt hi] at e2
      have q := rh'.obj i a o (by rw [← ix i hi]; exact e1) e2
      have b := old_blw rh ok hi e2
      cases o with
      | lst xs =>
        obtain ⟨vs, f, r'⟩ := q
        exact ⟨vs, f, r'.sub (fun i hi => ix i hi) (fun b hb => List.mem_append_left _ hb) b⟩
      | dic _ => exact q.elim
    by_cases hb : w.blw h.length
    · rw [if_pos hb]
      exact ⟨m, w, _, rfl, n0, base, r.sub (fun i hi => ix i hi) (fun b hb => List.mem_append_left _ hb) hb⟩
    · rw [if_neg hb]
      cases w with
      | ref p =>
        dsimp only
        split
        · rename_i o ho
          split
          · rename_i hob
            obtain ⟨a, ea, rfl⟩ := (show ∃ a, (m ++ t)[p]? = some a ∧ v = .ref a by unfold Rep at r; exact r)
            have hp : ¬ p < h.length := hb
            have am : a ∉ m := fun z => by
              obtain ⟨j, hj, e⟩ := List.mem_iff_getElem.mp z
              have e2 : (m ++ t)[j]? = some a := by rw [List.getElem?_append_left hj, List.getElem?_eq_getElem hj, e]
              have := nodup_ix rh'.nd ea e2
              rw [rh.len] at hj
              omega
            have sub2 : ∀ b ∈ m ++ [a], b ∈ m ++ t := fun b hb => by
              rcases List.mem_append.mp hb with z | z
              · exact List.mem_append_left _ z
              · rw [List.mem_singleton.mp z]; exact List.mem_of_getElem? ea
            have ix2 : ∀ i, i < h.length → (m ++ [a])[i]? = (m ++ t)[i]? := fun i hi => by rw [List.getElem?_append_left (by rw [rh.len]; exact hi)]; exact ix i hi
            refine ⟨m ++ [a], .ref h.length, _, rfl, ⟨⟨[a], rfl⟩, n.fr, fun b hb hm => n.new b (sub2 b hb) hm⟩, ?_, by unfold Rep; exact ⟨a, by rw [← rh.len, List.getElem?_append_right (Nat.le_refl _)]; simp, rfl⟩⟩
            refine ⟨?_, by simp [lt, rh.len], fun i b u e1 e2 => ?_⟩
            · rw [List.nodup_append]
              refine ⟨rh.nd, by simp, fun b hb c hc => ?_⟩
              rw [List.mem_singleton.mp hc]
              exact fun z => am (z ▸ hb)
            · by_cases hl : i < h.length
              · rw [List.getElem?_append_left (by rw [lt]; exact hl), List.getElem?_take_of_lt hl] at e2
                have q := rh'.obj i b u (by rw [← ix2 i hl]; exact e1) e2
                have bb := old_blw rh ok hl e2
                cases u with
                | lst xs =>
                  obtain ⟨vs, f, r'⟩ := q
                  exact ⟨vs, f, r'.sub (fun i hi => ix2 i hi) sub2 bb⟩
                | dic _ => exact q.elim
              · have hi : i = h.length := by
                  have := (List.getElem?_eq_some_iff.mp e1).1
                  simp [rh.len] at this; omega
                subst hi
                rw [List.getElem?_append_right (by rw [lt]; exact Nat.le_refl _), lt, Nat.sub_self] at e2
                rw [← rh.len, List.getElem?_append_right (Nat.le_refl _), Nat.sub_self] at e1
                simp at e1 e2
                subst e1; subst e2
                have q := rh'.obj p a o ea ho
                cases o with
                | lst xs =>
                  obtain ⟨vs, f, r'⟩ := q
                  exact ⟨vs, f, r'.sub (fun i hi => ix2 i hi) sub2 hob⟩
                | dic _ => exact q.elim
          · exact same
        · exact same
      | _ => exact same
  · rw [if_neg ok]
    exact same
end

/-! ### a def of the text -/
/-- what the look asks of a def -/
structure DefOk (c : Cc) (d : Df) (ps : List Str) (body : List Stmt) : Prop where
  sc : FnScope c.N ps c.sc
  np : d.np = ps.length
  ns : d.ns = c.N.length
  fn : c.fn = fun _ => true
  chk : ∃ n, chkSs n c body d.body = true
section
variable {P : Program} {w : World} {K : PySem.W.Frag} {mg : Str → Option Value} {base : Heap} (cl : List Value)
/-- the def's names, functions and so on as they stand behind the top -/
structure TopOk (K : PySem.W.Frag) (mg : Str → Option Value) (c : Cc) : Prop where
  blt : ∀ x : Str, c.blt.contains x = true → mg x = none
  lcm : c.mth.contains ("lcm" : Str) = true → mg "lcm" = some (.builtin "math.lcm")
  gcd : c.mth.contains ("gcd" : Str) = true → mg "gcd" = some (.builtin "math.gcd")
  cns : ∀ p ∈ c.cns, ∃ v, mg p.1 = some v ∧ ConV K p.2 v
/-- as FnAt, of the parts alone -/
structure FnAt0 (P : Program) (w : World) (K : PySem.W.Frag) (mg : Str → Option Value) (base : Heap) (cl : List Value) (k : Nat) (φ : List W → Hw → Res W) (x : Str) (n : Nat) : Prop where
  ex : ∃ f fd ps, mg x = some (.ref f) ∧ PySem.W.keepIn K (.ref f) = true ∧ Binds K fd ps [] ∧ FnOk P w K mg base (L2.CX P w) k f fd ps (spF ⟨P, w, K, mg, base, cl⟩ φ n)
  ln : ∀ ws h, ws.length ≠ n → φ ws h = .err
theorem runDf_len {Φ : Fn} {d : Df} {ws : List W} {h : Hw} (hl : ws.length ≠ d.np) : runDf Φ d ws h = .err := by
  unfold runDf; rw [if_neg hl]
theorem def_ok {c : Cc} {d : Df} {ps : List Str} {x : Str} {params : Arguments} {body : List Stmt} {f : Addr} {fd : FuncData} {k : Nat} {Φ : Fn}
    (F : FunD K x x params body c.sc [] [] f fd) (D : DefOk c d ps body) (T : TopOk K mg c) (hf : ∀ (i : Nat) (y : Str) (a : Nat), c.fns[i]? = some (y, a) → FnAt0 P w K mg base cl k (Φ i) y a) :
    FnOk P w K mg base (L2.CX P w) (k + 1) f fd ps (spF ⟨P, w, K, mg, base, cl⟩ (runDf Φ d) d.np) := by
  refine F.ok D.sc (fun vs H Q E h => by rw [← D.np]; exact h.1) (fun cdv A outer s H vs Q E hr h => ?_)
  obtain ⟨n, hc⟩ := D.chk
  have tk : Takes (cxOf (L2.CX P w) P w K mg base c.N x c.sc f cdv A outer s H E) (fun cls d _ H => E cls d H) := takes_of rfl rfl rfl rfl
  have C : Ctx (cxOf (L2.CX P w) P w K mg base c.N x c.sc f cdv A outer s H E) cl c k Φ (fun cls d _ H => E cls d H) :=
    ⟨rfl, D.sc.nd, rfl, D.sc.kind, D.fn.symm, rfl, hr, tk, passes_of rfl, fun i y a e => ⟨(hf i y a e).ex, (hf i y a e).ln⟩, T.blt, T.lcm, T.gcd, T.cns⟩
  refine ⟨_, (sndS cl n).2 c body d.body hc _ k Φ _ C, ?_⟩
  obtain ⟨hl, m, h0, ws, rh, r, z⟩ := h
  have hlw : ws.length = d.np := by rw [r.len, hl]
  refine ⟨m, ws.map some ++ List.replicate (d.ns - d.np) none, h0, ?_, rh, ?_⟩
  · have := RepS.start (d.ns - d.np) r
    unfold L2.start
    rw [hl, ← D.ns]
    exact this
  · unfold runDf at z
    rw [if_pos hlw] at z
    cases e : evSs Φ d.body (ws.map some ++ List.replicate (d.ns - d.np) none) h0 with
    | ok q h' =>
      obtain ⟨fl, ρ'⟩ := q
      rw [e] at z
      cases fl with
      | next =>
        intro m' H' n rh' σ' _
        obtain ⟨m2, w2, h2, e2, n2, rh2, r2⟩ := tidy_ok (v := .non) rh n rh' (Rep.non' (G := ⟨P, w, K, mg, base, cl⟩))
        dsimp only at z
        rw [e2] at z
        exact z m2 H' _ n2 rh2 r2
      | brk => exact z.no
      | cont => exact z.no
      | ret u =>
        intro m' H' n rh' v rv
        obtain ⟨m2, w2, h2, e2, n2, rh2, r2⟩ := tidy_ok rh n rh' rv
        dsimp only at z
        rw [e2] at z
        exact z m2 H' _ n2 rh2 r2
      | rz x => exact fun m' H' n rh' σ' c d rs' rx => z m' H' c d n rh' rx
    | exc x h' => rw [e] at z; exact z.no
    | err => rw [e] at z; exact z.no
/-- all defs of the text, at every level -/
structure Txt (P : Program) (w : World) (K : PySem.W.Frag) (mg : Str → Option Value) (ds : List Df) (fns : List (Str × Nat)) : Prop where
  each : ∀ (i : Nat) (y : Str) (a : Nat), fns[i]? = some (y, a) → ∃ d c ps params body f fd, ds[i]? = some d ∧ d.np = a ∧ c.fns = fns ∧ FunD K y y params body c.sc [] [] f fd ∧ mg y = some (.ref f) ∧ Binds K fd ps [] ∧ DefOk c d ps body ∧ TopOk K mg c
theorem txt_ok {ds : List Df} {fns : List (Str × Nat)} (T : Txt P w K mg ds fns) : ∀ k (i : Nat) (y : Str) (a : Nat), fns[i]? = some (y, a) → FnAt0 P w K mg base cl k (PhiN ds k i) y a
  | 0, i, y, a, e => by
    obtain ⟨d, c, ps, params, body, f, fd, e1, rfl, rfl, F, g, b, D, To⟩ := T.each i y a e
    refine ⟨⟨f, fd, ps, g, F.kp, b, ⟨fun vs H Q E h => by rw [← D.np]; exact h.1, fun A outer s H args us vs Q E hr he hb hv hs => ?_⟩⟩, fun ws h hl => PhiN_z⟩
    obtain ⟨_, _, _, _, _, _, z⟩ := hs
    rw [PhiN_z] at z
    exact (show False from z).elim
  | k + 1, i, y, a, e => by
    have ih := txt_ok T k
    obtain ⟨d, c, ps, params, body, f, fd, e1, rfl, rfl, F, g, b, D, To⟩ := T.each i y a e
    have e2 : PhiN ds (k + 1) i = runDf (PhiN ds k) d := by
      funext vs h
      exact PhiN_s e1
    rw [e2]
    exact ⟨⟨f, fd, ps, g, F.kp, b, def_ok cl F D To ih⟩, fun ws h hl => runDf_len hl⟩
end
end Ev

set_option Elab.async false
set_option linter.all false
set_option maxRecDepth 100000
set_option maxHeartbeats 4000000
/-! EvF: the head by facts, the law's end. -/
namespace Ev
open PySem PySem.Spec PyProof.Rows L2 He

/-- what is looked at behind the top: the facts, the defs, one thing more -/
def hookE (n : Nat) (fa : List Fa) (fn : List DefD) (ex : PySem.W.Frag → Bool) : PySem.W.Hook where
  α := AlD × Bool
  obs := fun s => (obsDG n fa fn s.heap.get?, ex (frG s.heap.get? (asD s.heap.get? n)))
  val := fun _ => (valD fn, true)
  says := fun _ h => ∃ K : PySem.W.Frag, K.In h ∧ SaysD fa fn K ∧ ex K = true
  of := fun _ _ e => ⟨_, frG_in, congrArg (fun z : AlD × Bool => z.1) e, congrArg (fun z : AlD × Bool => z.2) e⟩
  keeps := fun _ _ _ ⟨K, hK, c⟩ k => ⟨K, PySem.W.Frag.In.keeps hK k, c⟩
def obE (n : Nat) (fa : List Fa) (fn : List DefD) (ex : PySem.W.Frag → Bool) (s : PySem.W.SharedT) : AlD × Bool :=
  (obsDG n fa fn (HandSHeadRun.getT s), ex (frG (HandSHeadRun.getT s) (asD (HandSHeadRun.getT s) n)))
theorem obE_eq (n : Nat) (fa : List Fa) (fn : List DefD) (ex : PySem.W.Frag → Bool) (s : PySem.W.SharedT) : obE n fa fn ex s = (hookE n fa fn ex).obs s.abs := by
  have e : HandSHeadRun.getT s = s.abs.heap.get? := funext (HandSHeadRun.getT_eq s)
  unfold obE hookE
  rw [e]

/-- a def of the text: its name, its place in the top, and what the look takes -/
structure Dd where
  y : Str
  i : Nat
  N : List Str
  ps : List Str
  d : Df
def stOf (P : Program) (i : Nat) : Stmt := P.main.body.getD i (.Pass ⟨0, 0, 0, 0⟩)
def fnsOf (rs : List Dd) : List (Str × Nat) := rs.map fun r => (r.y, r.ps.length)
def ccOf (P : Program) (rs : List Dd) (blt mth : List Str) (cns : List (Str × W)) (r : Dd) : Cc := ⟨r.N, defScope (stOf P r.i), fun _ => true, fnsOf rs, blt, mth, cns⟩
def faOf (rs : List Dd) (blt : List Str) : List Fa := rs.map (fun r => Fa.glo r.y) ++ blt.map Fa.free
def fnOf (P : Program) (rs : List Dd) : List DefD := rs.map fun r => ⟨(r.y, none), r.y, r.y, defArgs (stOf P r.i), defBody (stOf P r.i), defScope (stOf P r.i), [], []⟩
def mthE (K : PySem.W.Frag) (x : Str) : Bool := decide (PySem.W.nsIn K mainGlobals x = some (some (.builtin (if x = ("lcm" : Str) then "math.lcm" else "math.gcd"))))
/-- a constant of the module -/
def cnsE (K : PySem.W.Frag) (p : Str × W) : Bool := match PySem.W.nsIn K mainGlobals p.1 with
  | some (some v) => conB 20 K p.2 v
  | _ => false
def exOf (mth : List Str) (cns : List (Str × W)) (K : PySem.W.Frag) : Bool := mth.all (mthE K) && cns.all (cnsE K)
/-- what a def must be, in one row each -/
structure DdOk (P : Program) (rs : List Dd) (blt mth : List Str) (cns : List (Str × W)) (r : Dd) : Prop where
  sc : FnScope r.N r.ps (defScope (stOf P r.i))
  np : r.d.np = r.ps.length
  ns : r.d.ns = r.N.length
  chk : chkSs 100 (ccOf P rs blt mth cns r) (defBody (stOf P r.i)) r.d.body = true
  bind : ∀ (kV doc pm : Value) (an : Option Addr) (cdv ct : Value) (us : List Value), us.length = r.ps.length → bindArgs (PySem.W.fnOf r.y r.y (defArgs (stOf P r.i)) (defBody (stOf P r.i)) (defScope (stOf P r.i)) .none kV doc pm an cdv ct) ⟨us, []⟩ = pure (r.ps.zip us)
section
variable {P : Program} {w : World} {K : PySem.W.Frag} {mg : Str → Option Value} {h : Heap} {rs : List Dd} {blt mth : List Str} {cns : List (Str × W)}
theorem txt_of (ok : ∀ r ∈ rs, DdOk P rs blt mth cns r) (X : K.In h) (G : h.Ns mainGlobals mg) (c : SaysD (faOf rs blt) (fnOf P rs) K) (ex : exOf mth cns K = true) : Txt P w K mg (rs.map (·.d)) (fnsOf rs) := by
  refine ⟨fun i y a e => ?_⟩
  unfold fnsOf at e
  rw [List.getElem?_map] at e
  cases er : rs[i]? with
  | none => rw [er] at e; cases e
  | some r =>
    rw [er] at e
    cases e
    have hr := List.mem_of_getElem? er
    have D := ok r hr
    obtain ⟨fd, F⟩ := c.def_ i (d := ⟨(r.y, none), r.y, r.y, defArgs (stOf P r.i), defBody (stOf P r.i), defScope (stOf P r.i), [], []⟩) (by unfold fnOf; rw [List.getElem?_map, er]; rfl)
    have F' : FunD K r.y r.y (defArgs (stOf P r.i)) (defBody (stOf P r.i)) (defScope (stOf P r.i)) [] [] (ga K r.y) fd := F
    refine ⟨r.d, ccOf P rs blt mth cns r, r.ps, defArgs (stOf P r.i), defBody (stOf P r.i), ga K r.y, fd, by rw [List.getElem?_map, er]; rfl, D.np, rfl, F', ?_, F'.bindsN D.bind, ⟨D.sc, D.np, D.ns, rfl, 100, D.chk⟩, ?_⟩
    · exact glo_ok X G (c.facts (List.mem_append_left _ (List.mem_map.mpr ⟨r, hr, rfl⟩)))
    · have free : ∀ x : Str, blt.contains x = true → mg x = none := fun x hx =>
        free_ok X G (c.facts (List.mem_append_right _ (List.mem_map.mpr ⟨x, by simpa using hx, rfl⟩)))
      have mt : ∀ x : Str, mth.contains x = true → mg x = some (.builtin (if x = ("lcm" : Str) then "math.lcm" else "math.gcd")) := fun x hx => by
        have := List.all_eq_true.mp (Bool.and_eq_true_iff.mp ex).1 x (by simpa using hx)
        exact PySem.W.mg_of X G (of_decide_eq_true this)
      have cn : ∀ p ∈ cns, ∃ v, mg p.1 = some v ∧ ConV K p.2 v := fun p hp => by
        have z := List.all_eq_true.mp (Bool.and_eq_true_iff.mp ex).2 p hp
        unfold cnsE at z
        split at z
        · rename_i v hv
          exact ⟨v, PySem.W.mg_of X G hv, conB_ok _ _ _ z⟩
        · cases z
      refine ⟨free, fun hx => ?_, fun hx => ?_, cn⟩
      · have := mt _ hx
        rw [if_pos rfl] at this
        exact this
      · have := mt _ hx
        rw [if_neg (by decide +kernel)] at this
        exact this
/-- the law's own call -/
theorem law_sp {G : GX} {φ : List W → Hw → Res W} {n : Nat} (hl : ∀ ns : List Int, ns.length ≤ n → ∃ h', φ [.fl (ns.map .int)] [] = .ok (.bl true) h') (H : Hp) (a : Addr) (ns : List Int) (hn : ns.length ≤ n) (hO : Only H) (hS : SqL G.K H a (ns.map V.int)) :
    spF G φ 1 [.ref a] H (fun v _ => v = .bl true) fun _ _ _ => False := by
  have st : StL G.K H [] a (ns.map V.int) := by
    rcases hS with (r | ⟨o, r⟩) | r
    · rcases hO a with z | ⟨o, xs, z⟩
      · rw [r] at z; cases z
      · rw [r] at z; cases z
    · exact .inl ⟨⟨o, r⟩, by simp⟩
    · exact .inr r
  obtain ⟨h', e⟩ := hl ns hn
  refine ⟨rfl, [], [], [.fl (ns.map .int)], ⟨List.nodup_nil, rfl, fun _ _ _ e _ => by simp at e⟩, .cons (by unfold Rep; exact ⟨a, _, rfl, st, repL_ints (G := G) ns⟩) .nil, ?_⟩
  rw [e]
  exact fun m' H' b _ _ r => r.bl_of
end
/-- the walk of a law: li its place in the text -/
theorem walk_ev {l : PySem.W.OpenLaw} {n k li : Nat} {q : Program} {loose : List Str} {XP : (Str → Option Value) → Heap → Prop} {d : DefRec} {rs : List Dd} {blt mth : List Str} {cns : List (Str × W)} {nn : Nat} {r : Dd}
    (hn : l.most = some n) (hn2 : n ≤ sizeLine) (hdf : d.params.defaults = []) (hr : Room (k + 1) callerA) (hd : d.name = r.y) (ok : ∀ r ∈ rs, DdOk l.prog rs blt mth cns r) (hli : rs[li]? = some r) (hps : r.ps.length = 1)
    (hlaw : ∀ ns : List Int, ns.length ≤ n → ∃ h', PhiN (rs.map (·.d)) (k + 1) li [.fl (ns.map .int)] [] = .ok (.bl true) h') :
    PySem.W.WalkO q loose XP (hookE nn (faOf rs blt) (fnOf l.prog rs) (exOf mth cns)).says l.row.toRowW d [] (fun f vs => PySem.call f vs) := by
  refine Att.attach_call hn hdf fun w s₀ s₁ mg mb fa o pm cd doc a vs ns G Y ho hd' hcd hmg hobj hints hlen hg => ?_
  obtain ⟨K, KX, c, ex⟩ := Y
  have T : Txt l.prog w K mg (rs.map (·.d)) (fnsOf rs) := txt_of ok KX G.T.g c ex
  have hy : (fnsOf rs)[li]? = some (r.y, 1) := by unfold fnsOf; rw [List.getElem?_map, hli]; show some (r.y, r.ps.length) = _; rw [hps]
  have hrm := List.mem_of_getElem? hli
  have D := ok r hrm
  obtain ⟨fd, F⟩ := c.def_ li (d := ⟨(r.y, none), r.y, r.y, defArgs (stOf l.prog r.i), defBody (stOf l.prog r.i), defScope (stOf l.prog r.i), [], []⟩) (by unfold fnOf; rw [List.getElem?_map, hli]; rfl)
  have F' : FunD K r.y r.y (defArgs (stOf l.prog r.i)) (defBody (stOf l.prog r.i)) (defScope (stOf l.prog r.i)) [] [] (ga K r.y) fd := F
  have hfa : fa = ga K r.y := by
    have e1 := glo_ok KX G.T.g (c.facts (List.mem_append_left _ (List.mem_map.mpr ⟨r, hrm, rfl⟩)))
    rw [hd] at hmg
    rw [hmg] at e1
    cases e1; rfl
  subst hfa
  obtain ⟨x, hx⟩ : ∃ x, r.ps = [x] := by
    match r.ps, hps with
    | [x], _ => exact ⟨x, rfl⟩
  refine law_call (P := l.prog) (w := w) (CX := L2.CX l.prog w) (k := k + 1) (fd := fd) (x := x) (sp := spF ⟨l.prog, w, K, mg, s₁.heap, []⟩ (PhiN (rs.map (·.d)) (k + 1) li) 1) KX G.T.g G.T.b G.T.builtins G.T.nolimit hg hobj hints (Nat.le_trans hlen hn2) hr ?_ ?_ (fun H hO hS => law_sp (G := ⟨l.prog, w, K, mg, s₁.heap, []⟩) hlaw H a ns hlen hO hS) ?_
  · intro base hb1 hb2
    have D2 : DefOk (ccOf l.prog rs blt mth cns r) r.d r.ps (defBody (stOf l.prog r.i)) := ⟨D.sc, D.np, D.ns, rfl, 100, D.chk⟩
    have free : ∀ x : Str, blt.contains x = true → mg x = none := fun x hx =>
      free_ok KX G.T.g (c.facts (List.mem_append_right _ (List.mem_map.mpr ⟨x, by simpa using hx, rfl⟩)))
    have mt : ∀ x : Str, mth.contains x = true → mg x = some (.builtin (if x = ("lcm" : Str) then "math.lcm" else "math.gcd")) := fun x hx => by
      have := List.all_eq_true.mp (Bool.and_eq_true_iff.mp ex).1 x (by simpa using hx)
      exact PySem.W.mg_of KX G.T.g (of_decide_eq_true this)
    have cn : ∀ p ∈ cns, ∃ v, mg p.1 = some v ∧ ConV K p.2 v := fun p hp => by
      have z := List.all_eq_true.mp (Bool.and_eq_true_iff.mp ex).2 p hp
      unfold cnsE at z
      split at z
      · rename_i v hv
        exact ⟨v, PySem.W.mg_of KX G.T.g hv, conB_ok _ _ _ z⟩
      · cases z
    have To : TopOk K mg (ccOf l.prog rs blt mth cns r) := ⟨free, fun hx => by have := mt _ hx; rw [if_pos rfl] at this; exact this, fun hx => by have := mt _ hx; rw [if_neg (by decide +kernel)] at this; exact this, cn⟩
    have e2 : PhiN (rs.map fun r : Dd => r.d) (k + 1) li = runDf (PhiN (rs.map fun r : Dd => r.d) k) r.d := by
      funext vs h
      exact PhiN_s (by rw [List.getElem?_map, hli]; rfl)
    have z := def_ok (P := l.prog) (w := w) (base := base) [] F' D2 To (Φ := PhiN (rs.map (·.d)) k) (k := k) (fun i y a e => txt_ok [] T k i y a e)
    rw [← e2, show r.d.np = 1 by rw [D.np, hps], hx] at z
    exact z
  · intro s u
    have b := FunD.bindsA (ps := r.ps) F' D.bind s [u] (by rw [hps]; rfl)
    rw [hx] at b
    exact b
  · intro H e s' hc
    obtain ⟨_, _, _, _, _, _, _, _, _, _, _, _, z⟩ := hc
    exact z.elim
end Ev

set_option Elab.async false
set_option linter.all false
set_option maxRecDepth 100000
/-! Wp1: walking through the small language by rewriting. -/
namespace Ev
open PySem

/-- shuts a term off from rewriting -/
inductive Sl {α : Sort _} (a : α) : Type | k
def wp {α : Type} (r : Res α) (Q : α → Hw → Prop) (E : Ex → Hw → Prop) (_ : Sl Q := .k) (_ : Sl E := .k) : Prop :=
  match r with
  | .ok a h => Q a h
  | .exc e h => E e h
  | .err => False
def wps (r : Rs) (Q : Fl → En → Hw → Prop) (_ : Sl Q := .k) : Prop :=
  match r with
  | .ok (f, ρ) h => Q f ρ h
  | _ => False
def wo {α : Type} (o : Option α) (Q : α → Prop) (_ : Sl Q := .k) : Prop :=
  match o with
  | some a => Q a
  | none => False
abbrev noE : Ex → Hw → Prop := fun _ _ => False
/-- the greatest, j of none -/
def maxD (ns : List Int) (j : Int) : Int := match ns with
  | [] => j
  | n :: ns => maxL (n :: ns)
/-- a branch -/
def br (b : Bool) (A B : Prop) (_ : Sl A := .k) (_ : Sl B := .k) : Prop := if b = true then A else B
theorem br_t {A B : Prop} : br true A B = A := rfl
theorem br_f {A B : Prop} : br false A B = B := rfl
theorem br_intro {c : Prop} [Decidable c] {A B : Prop} (h1 : c → A) (h2 : ¬ c → B) : br (decide c) A B := by
  unfold br
  by_cases h : c
  · simp [h, h1]
  · simp [h, h2]
theorem br_intro' {c : Bool} {A B : Prop} (h1 : c = true → A) (h2 : c = false → B) : br c A B := by
  cases c
  · exact h2 rfl
  · exact h1 rfl
theorem wo_some {α : Type} {a : α} {Q : α → Prop} : wo (some a) Q = Q a := rfl
theorem wo_none {α : Type} {Q : α → Prop} : wo none Q = False := rfl
theorem wo_ex {α : Type} {o : Option α} {Q : α → Prop} {a : α} (e : o = some a) (h : Q a) : wo o Q := by rw [e]; exact h
section
variable {α β : Type} {Q : α → Hw → Prop} {E : Ex → Hw → Prop} {h : Hw}
theorem wp_ok {a : α} : wp (.ok a h) Q E = Q a h := rfl
theorem wp_err : wp (.err : Res α) Q E = False := rfl
theorem wp_exc {e : Ex} : wp (.exc e h : Res α) Q E = E e h := rfl
theorem wp_bind {r : Res β} {f : β → Hw → Res α} : wp (r.bind f) Q E = wp r (fun a h => wp (f a h) Q E) E := by cases r <;> rfl
theorem wp_mono {r : Res α} {Q' : α → Hw → Prop} {E' : Ex → Hw → Prop} (w : wp r Q E) (hq : ∀ a h, Q a h → Q' a h) (he : ∀ e h, E e h → E' e h) : wp r Q' E' := by
  cases r with
  | ok a h => exact hq _ _ w
  | exc e h => exact he _ _ w
  | err => exact w
theorem wp_eq {r : Res α} {a : α} {h' : Hw} (e : r = .ok a h') (q : Q a h') : wp r Q E := by rw [e]; exact q
theorem wpc {r : Res α} {Q' : α → Hw → Prop} (e : ∀ a h, Q a h = Q' a h) : wp r Q E = wp r Q' E := by
  have : Q = Q' := funext fun a => funext fun h => e a h
  subst this; rfl
theorem wp_run {r : Res α} {a : α} {h' : Hw} (w : wp r (fun b g => b = a ∧ g = h') noE) : r = .ok a h' := by
  cases r with
  | ok b g => obtain ⟨rfl, rfl⟩ := w; rfl
  | exc e h => exact w.elim
  | err => exact w.elim
end
theorem wps_st {α : Type} {r : Res α} {ρ : En} {f : α → Hw → Rs} {Q : Fl → En → Hw → Prop} : wps (r.st ρ f) Q = wp r (fun a h => wps (f a h) Q) (fun e h => Q (.rz e) ρ h) := by cases r <;> rfl
theorem wps_ok {f : Fl} {ρ : En} {h : Hw} {Q : Fl → En → Hw → Prop} : wps (.ok (f, ρ) h) Q = Q f ρ h := rfl
theorem wps_mono {r : Rs} {Q Q' : Fl → En → Hw → Prop} (w : wps r Q) (hq : ∀ f ρ h, Q f ρ h → Q' f ρ h) : wps r Q' := by
  match r, w with
  | .ok (f, ρ) h, w => exact hq _ _ _ w

/-! the heap -/
def lstAt (h : Hw) (p : Nat) : Option (List W) := match h[p]? with
  | some (.lst xs) => some xs
  | _ => none
theorem lstAt_of {h : Hw} {p : Nat} {xs : List W} (e : h[p]? = some (.lst xs)) : lstAt h p = some xs := by unfold lstAt; rw [e]
theorem lstAt_get {h : Hw} {p : Nat} {xs : List W} (e : lstAt h p = some xs) : h[p]? = some (.lst xs) := by
  unfold lstAt at e
  split at e
  · rename_i ys e2; cases e; exact e2
  · cases e
theorem lstAt_lt {h : Hw} {p : Nat} {xs : List W} (e : lstAt h p = some xs) : p < h.length := (List.getElem?_eq_some_iff.mp (lstAt_get e)).1
theorem lstAt_z {xs : List W} {h : Hw} : lstAt (.lst xs :: h) 0 = some xs := rfl
theorem lstAt_s {o : O} {h : Hw} {n : Nat} : lstAt (o :: h) (n + 1) = lstAt h n := rfl
theorem lstAt_al {h t : Hw} {i : Nat} (e : i < h.length) : lstAt (h ++ t) i = lstAt h i := by unfold lstAt; rw [List.getElem?_append_left e]
theorem lstAt_ar {h t : Hw} {i : Nat} (e : h.length ≤ i) : lstAt (h ++ t) i = lstAt t (i - h.length) := by unfold lstAt; rw [List.getElem?_append_right e]
theorem lstAt_e {h t : Hw} {o : O} : lstAt (h ++ o :: t) h.length = lstAt (o :: t) 0 := by rw [lstAt_ar (Nat.le_refl _), Nat.sub_self]
theorem lstAt_set {h : Hw} {p : Nat} {xs : List W} (e : p < h.length) : lstAt (h.set p (.lst xs)) p = some xs := by unfold lstAt; rw [List.getElem?_set_self e]
theorem lstAt_ne {h : Hw} {p q : Nat} {o : O} (e : p ≠ q) : lstAt (h.set p o) q = lstAt h q := by unfold lstAt; rw [List.getElem?_set_ne e]
theorem seqOf_ref {h : Hw} {p : Nat} : seqOf h (.ref p) = lstAt h p := rfl
theorem seqOf_tup {h : Hw} {xs : List W} : seqOf h (.tup xs) = some xs := rfl
theorem seqOf_fl {h : Hw} {xs : List W} : seqOf h (.fl xs) = some xs := rfl

/-! lists of whole numbers -/
theorem toInts_ints (ns : List Int) : toInts (ns.map W.int) = some ns := by
  induction ns with
  | nil => rfl
  | cons n ns ih => show (toInts _).map _ = _; rw [ih]; rfl
theorem toInts_nil : toInts [] = some [] := rfl
theorem toInts_cons {i : Int} {r : List W} : toInts (.int i :: r) = (toInts r).map (i :: ·) := rfl

def negW (x : W) (h : Hw) : Res W := match x with | .int i => .ok (.int (-i)) h | _ => .err
def intW : W → Option Int | .int i => some i | _ => none
def mtW (x : W) (h : Hw) : Option (List W) := match x with | .ref n => lstAt h n | _ => none
/-! expressions -/
section
variable {Φ : Fn} {ρ : En} {h : Hw} {Q : W → Hw → Prop} {E : Ex → Hw → Prop}
def look (ρ : En) (i : Nat) : Option W := match ρ[i]? with
  | some (some w) => some w
  | _ => none
theorem look_z {w : W} {ρ : En} : look (some w :: ρ) 0 = some w := rfl
theorem look_s {o : Option W} {ρ : En} {n : Nat} : look (o :: ρ) (n + 1) = look ρ n := rfl
theorem wp_var {i : Nat} : wp (evE Φ (.var i) ρ h) Q E = wo (look ρ i) fun w => Q w h := by
  rw [evE]
  unfold look
  cases e : ρ[i]? with
  | none => rfl
  | some o => cases o <;> rfl
theorem wp_cst {w : W} : wp (evE Φ (.cst w) ρ h) Q E = Q w h := by unfold evE; rfl
theorem wp_bin {o : Bop} {a b : IE} : wp (evE Φ (.bin o a b) ρ h) Q E = wp (evE Φ a ρ h) (fun x h => wp (evE Φ b ρ h) (fun y h => wp (bop o x y h) Q E) E) E := by
  rw [evE, wp_bind]; exact wpc fun x h => wp_bind
theorem wp_neg {a : IE} : wp (evE Φ (.neg a) ρ h) Q E = wp (evE Φ a ρ h) (fun x h => wp (negW x h) Q E) E := by
  rw [evE, wp_bind]; rfl
theorem wp_cmp {o : Cop} {a b : IE} : wp (evE Φ (.cmp o a b) ρ h) Q E = wp (evE Φ a ρ h) (fun x h => wp (evE Φ b ρ h) (fun y h => wp (cmp o x y h) Q E) E) E := by
  rw [evE, wp_bind]; exact wpc fun x h => wp_bind
theorem wp_and {a b : IE} : wp (evE Φ (.and a b) ρ h) Q E = wp (evE Φ a ρ h) (fun x h => wo (truth x h) fun k => br k (wp (evE Φ b ρ h) Q E) (Q x h)) E := by
  rw [evE, wp_bind]
  refine wpc fun x h => ?_
  cases truth x h with
  | none => rfl
  | some k => cases k <;> rfl
theorem wp_or {a b : IE} : wp (evE Φ (.or a b) ρ h) Q E = wp (evE Φ a ρ h) (fun x h => wo (truth x h) fun k => br k (Q x h) (wp (evE Φ b ρ h) Q E)) E := by
  rw [evE, wp_bind]
  refine wpc fun x h => ?_
  cases truth x h with
  | none => rfl
  | some k => cases k <;> rfl
theorem wp_not {a : IT} : wp (evE Φ (.not a) ρ h) Q E = wp (evT Φ a ρ h) (fun k h => Q (.bl (!k)) h) E := by
  rw [evE, wp_bind]; rfl
theorem wp_ite {c : IT} {a b : IE} : wp (evE Φ (.ite c a b) ρ h) Q E = wp (evT Φ c ρ h) (fun k h => br k (wp (evE Φ a ρ h) Q E) (wp (evE Φ b ρ h) Q E)) E := by
  rw [evE, wp_bind]
  refine wpc fun k h => ?_; cases k <;> rfl
theorem wp_tup {es : IEs} : wp (evE Φ (.tup es) ρ h) Q E = wp (evEs Φ es ρ h) (fun vs h => vs.length ≤ 16777216 ∧ Q (.tup vs) h) E := by
  rw [evE, wp_bind]
  refine wpc fun vs h => ?_
  show wp (if vs.length ≤ 16777216 then _ else _) Q E = _
  by_cases c : vs.length ≤ 16777216
  · rw [if_pos c]; simp [c, wp_ok]
  · rw [if_neg c]; simp [c, wp_err]
theorem wp_lst {es : IEs} : wp (evE Φ (.lst es) ρ h) Q E = wp (evEs Φ es ρ h) (fun vs h => vs.length ≤ 16777216 ∧ Q (.ref h.length) (h ++ [.lst vs])) E := by
  rw [evE, wp_bind]
  refine wpc fun vs h => ?_
  show wp (if vs.length ≤ 16777216 then _ else _) Q E = _
  by_cases c : vs.length ≤ 16777216
  · rw [if_pos c]; simp [c, wp_ok]
  · rw [if_neg c]; simp [c, wp_err]
theorem wp_idx {a b : IE} : wp (evE Φ (.idx a b) ρ h) Q E = wp (evE Φ a ρ h) (fun x h => wp (evE Φ b ρ h) (fun y h => wp (item x y h) Q E) E) E := by
  rw [evE, wp_bind]; exact wpc fun x h => wp_bind
theorem wp_slc {a : IE} {lo hi : IP} : wp (evE Φ (.slc a lo hi) ρ h) Q E = wp (evE Φ a ρ h) (fun x h => wp (evP Φ lo ρ h) (fun l h => wp (evP Φ hi ρ h) (fun u h => wp (slice x l u h) Q E) E) E) E := by
  rw [evE, wp_bind]; exact wpc fun x h => (wp_bind).trans (wpc fun l h => wp_bind)
theorem wp_call {f : Nat} {es : IEs} : wp (evE Φ (.call f es) ρ h) Q E = wp (evEs Φ es ρ h) (fun vs h => wp (Φ f vs h) Q E) E := by
  rw [evE, wp_bind]
theorem wp_bi {f : Bi} {es : IEs} : wp (evE Φ (.bi f es) ρ h) Q E = wp (evEs Φ es ρ h) (fun vs h => wp (bi f vs h) Q E) E := by
  rw [evE, wp_bind]
theorem wp_bl {f : Bl} {l : IL} : wp (evE Φ (.bl f l) ρ h) Q E = wp (evL Φ l ρ h) (fun q h => wp (bl f q.1 h) Q E) E := by
  rw [evE, wp_bind]
theorem wp_mt {f : Mt} {o : IE} {es : IEs} : wp (evE Φ (.mt f o es) ρ h) Q E = wp (evE Φ o ρ h) (fun x h => wo (mtW x h) fun _ => wp (evEs Φ es ρ h) (fun vs h => wp (mt f x vs h) Q E) E) E := by
  rw [evE, wp_bind]
  refine wpc fun x h => ?_
  unfold mtW
  cases x <;> try rfl
  rename_i n
  dsimp only
  unfold lstAt
  cases h[n]? with
  | none => rfl
  | some o => cases o with
    | lst xs => exact wp_bind
    | dic _ => rfl
theorem wp_mk {l : IL} : wp (evE Φ (.mk l) ρ h) Q E = wp (evL Φ l ρ h) (fun q h => Q (.ref h.length) (h ++ [.lst q.1])) E := by
  rw [evE, wp_bind]; rfl
theorem wp_maxD {l : IL} {j : Int} : wp (evE Φ (.maxD l j) ρ h) Q E = wp (evL Φ l ρ h) (fun q h => q.2.2 = false ∧ wo (toInts q.1) fun ns => Q (.int (maxD ns j)) h) E := by
  rw [evE, wp_bind]
  refine wpc fun q h => ?_
  unfold maxDf
  cases q.2.2 with
  | true => simp [wp_err]
  | false => cases toInts q.1 with
    | none => simp [wp_err, wo]
    | some ns => cases ns <;> simp [wp_ok, wo, maxD]
theorem wp_glc {w : W} : wp (evE Φ (.glc w) ρ h) Q E = Q w h := by unfold evE; rfl
theorem wp_rgN {a : IE} : wp (evE Φ (.rgN a) ρ h) Q E = wp (evE Φ a ρ h) (fun x h => wo (intW x) fun j => Q (.rg 0 j) h) E := by
  rw [evE, wp_bind]
  refine wpc fun x h => ?_
  cases x <;> rfl
theorem wp_srtD {l : IL} : wp (evE Φ (.srtD l) ρ h) Q E = wp (evL Φ l ρ h) (fun q h => q.2.2 = true ∧ wo (toInts q.1) fun ns => ns.length < 64 ∧ Q (.ref h.length) (h ++ [.lst ((dsort ns).map W.int)])) E := by
  rw [evE, wp_bind]
  refine wpc fun q h => ?_
  unfold srtDf
  cases q.2.2 with
  | false => simp [wp_err]
  | true => cases toInts q.1 with
    | none => simp [wp_err, wo]
    | some ns =>
      by_cases c : ns.length < 64
      · simp [c, wp_ok, wo]
      · simp [c, wp_err, wo]
theorem wp_srt {l : IL} : wp (evE Φ (.srt l) ρ h) Q E = wp (evL Φ l ρ h) (fun q h => q.2.2 = false ∧ wo (toInts q.1) fun ns => ns.length < 64 ∧ Q (.ref h.length) (h ++ [.lst ((isort ns).map W.int)])) E := by
  rw [evE, wp_bind]
  refine wpc fun q h => ?_
  unfold srtf
  cases q.2.2 with
  | true => simp [wp_err]
  | false => cases toInts q.1 with
    | none => simp [wp_err, wo]
    | some ns =>
      by_cases c : ns.length < 64
      · simp [c, wp_ok, wo]
      · simp [c, wp_err, wo]
theorem wp_lr1 {a : IE} : wp (evE Φ (.lr1 a) ρ h) Q E = wp (evE Φ a ρ h) (fun x h => wo (intW x) fun j => (-4611686018427387904 ≤ j ∧ j ≤ 16777216) ∧ Q (.ref h.length) (h ++ [.lst (rng 0 j.toNat)])) E := by
  rw [evE, wp_bind]
  refine wpc fun x h => ?_
  cases x <;> try rfl
  rename_i j
  dsimp only [intW, wo]
  rw [Int.sub_zero]
  by_cases c : -(2 ^ 62) ≤ j ∧ j ≤ 16777216
  · rw [if_pos c]; exact propext ⟨fun q => ⟨c, q⟩, fun q => q.2⟩
  · rw [if_neg c]; exact propext ⟨fun q => q.elim, fun q => c q.1⟩
theorem wp_lr2 {a b : IE} : wp (evE Φ (.lr2 a b) ρ h) Q E = wp (evE Φ a ρ h) (fun x h => wp (evE Φ b ρ h) (fun y h => wo (intW x) fun i => wo (intW y) fun j => (-4611686018427387904 ≤ i ∧ i < 4611686018427387904 ∧ -4611686018427387904 ≤ j ∧ j < 4611686018427387904 ∧ (j - i).toNat ≤ 16777216) ∧ Q (.ref h.length) (h ++ [.lst (rng i (j - i).toNat)])) E) E := by
  rw [evE, wp_bind]
  refine wpc fun x h => (wp_bind).trans ?_
  refine wpc fun y h => ?_
  cases x <;> cases y <;> try rfl
  rename_i i j
  dsimp only [intW, wo]
  by_cases c : -(2 ^ 62) ≤ i ∧ i < 2 ^ 62 ∧ -(2 ^ 62) ≤ j ∧ j < 2 ^ 62 ∧ (j - i).toNat ≤ lim
  · rw [if_pos c]; exact propext ⟨fun q => ⟨c, q⟩, fun q => q.2⟩
  · rw [if_neg c]; exact propext ⟨fun q => q.elim, fun q => c q.1⟩
theorem wp_aa {k : Bool} {l : IL} : wp (evE Φ (.aa k l) ρ h) Q E = wp (evL Φ l ρ h) (fun q h => q.2.2 = false ∧ wo (toBls q.1) fun bs => Q (.bl (if k then bs.all id else bs.any id)) h) E := by
  rw [evE, wp_bind]
  refine wpc fun q h => ?_
  unfold aaf
  cases q.2.2 with
  | true => simp [wp_err]
  | false => cases toBls q.1 with
    | none => simp [wp_err, wo]
    | some bs => simp [wp_ok, wo]
theorem wp_tr2 {a b : IE} : wp (evE Φ (.tr2 a b) ρ h) Q E = wp (evE Φ a ρ h) (fun x h => wp (evE Φ b ρ h) (fun y h => wo (intW x) fun i => wo (intW y) fun j => (-4611686018427387904 ≤ i ∧ i < 4611686018427387904 ∧ -4611686018427387904 ≤ j ∧ j < 4611686018427387904 ∧ (j - i).toNat ≤ 16777216) ∧ Q (.tup (rng i (j - i).toNat)) h) E) E := by
  rw [evE, wp_bind]
  refine wpc fun x h => (wp_bind).trans ?_
  refine wpc fun y h => ?_
  cases x <;> cases y <;> try rfl
  rename_i i j
  dsimp only [intW, wo]
  by_cases c : -(2 ^ 62) ≤ i ∧ i < 2 ^ 62 ∧ -(2 ^ 62) ≤ j ∧ j < 2 ^ 62 ∧ (j - i).toNat ≤ lim
  · rw [if_pos c]; exact propext ⟨fun q => ⟨c, q⟩, fun q => q.2⟩
  · rw [if_neg c]; exact propext ⟨fun q => q.elim, fun q => c q.1⟩
theorem toBls_nil : toBls [] = some [] := rfl
theorem toBls_cons {i : Bool} {r : List W} : toBls (.bl i :: r) = (toBls r).map (i :: ·) := rfl
theorem wp_esn {Q : List W → Hw → Prop} : wp (evEs Φ .nil ρ h) Q E = Q [] h := by rw [evEs]; rfl
theorem wp_esc {e : IE} {es : IEs} {Q : List W → Hw → Prop} : wp (evEs Φ (.cons e es) ρ h) Q E = wp (evE Φ e ρ h) (fun x h => wp (evEs Φ es ρ h) (fun xs h => Q (x :: xs) h) E) E := by
  rw [evEs, wp_bind]; exact wpc fun x h => wp_bind
theorem wp_pn {Q : Option Int → Hw → Prop} : wp (evP Φ .no ρ h) Q E = Q none h := by rw [evP]; rfl
theorem wp_pa {e : IE} {Q : Option Int → Hw → Prop} : wp (evP Φ (.at e) ρ h) Q E = wp (evE Φ e ρ h) (fun x h => wo (intW x) fun i => Q (some i) h) E := by
  rw [evP, wp_bind]
  refine wpc fun x h => ?_; cases x <;> rfl
theorem wp_tv {e : IE} {Q : Bool → Hw → Prop} : wp (evT Φ (.val e) ρ h) Q E = wp (evE Φ e ρ h) (fun x h => wo (truth x h) fun k => Q k h) E := by
  rw [evT, wp_bind]
  refine wpc fun x h => ?_
  cases truth x h <;> rfl
theorem wp_ta {a b : IT} {Q : Bool → Hw → Prop} : wp (evT Φ (.and a b) ρ h) Q E = wp (evT Φ a ρ h) (fun k h => br k (wp (evT Φ b ρ h) Q E) (Q false h)) E := by
  rw [evT, wp_bind]
  refine wpc fun k h => ?_; cases k <;> rfl
theorem wp_to {a b : IT} {Q : Bool → Hw → Prop} : wp (evT Φ (.or a b) ρ h) Q E = wp (evT Φ a ρ h) (fun k h => br k (Q true h) (wp (evT Φ b ρ h) Q E)) E := by
  rw [evT, wp_bind]
  refine wpc fun k h => ?_; cases k <;> rfl
theorem wp_tn {a : IT} {Q : Bool → Hw → Prop} : wp (evT Φ (.not a) ρ h) Q E = wp (evT Φ a ρ h) (fun k h => Q (!k) h) E := by
  rw [evT, wp_bind]; rfl
theorem wp_lo {e : IE} {Q : List W × Gu × Bool → Hw → Prop} : wp (evL Φ (.of e) ρ h) Q E = wp (evE Φ e ρ h) (fun x h => wo (seqOf h x) fun xs => Q (xs, guOf x xs, isTup x) h) E := by
  rw [evL, wp_bind]
  refine wpc fun x h => ?_
  cases seqOf h x <;> rfl
theorem wp_ld {es : IEs} {Q : List W × Gu × Bool → Hw → Prop} : wp (evL Φ (.disp es) ρ h) Q E = wp (evEs Φ es ρ h) (fun vs h => vs.length ≤ 16777216 ∧ Q (vs, [], false) h) E := by
  rw [evL, wp_bind]
  refine wpc fun vs h => ?_
  show wp (if vs.length ≤ 16777216 then _ else _) Q E = _
  by_cases c : vs.length ≤ 16777216
  · rw [if_pos c]; simp [c, wp_ok]
  · rw [if_neg c]; simp [c, wp_err]
theorem wp_lc {g : IG} {it : II} {ts : ITs} {elt : IE} {own : List Nat} {Q : List W × Gu × Bool → Hw → Prop} : wp (evL Φ (.comp g it ts elt own) ρ h) Q E = wp (evI Φ it ρ h) (fun q h => wp (compL g q.2 (fun ρ h => evTs Φ ts ρ h) (fun ρ h => evE Φ elt ρ h) own ρ q.1 h []) (fun ys h => Q (ys, [], false) h) E) E := by
  rw [evL, wp_bind]; exact wpc fun x h => wp_bind
theorem wp_lc2 {g g2 : IG} {it it2 : II} {ts ts2 : ITs} {elt : IE} {own own2 : List Nat} {Q : List W × Gu × Bool → Hw → Prop} : wp (evL Φ (.comp2 g it ts g2 it2 ts2 elt own own2) ρ h) Q E = wp (evI Φ it ρ h) (fun q h => wp (compM g q.2 (fun ρ h => evTs Φ ts ρ h) (fun ρ h acc => (evI Φ it2 ρ h).bind fun q2 h => compL g2 q2.2 (fun ρ h => evTs Φ ts2 ρ h) (fun ρ h => evE Φ elt ρ h) own2 ρ q2.1 h acc) own ρ q.1 h []) (fun ys h => Q (ys, [], false) h) E) E := by
  rw [evL, wp_bind]; exact wpc fun x h => wp_bind
theorem wp_tsn {Q : Bool → Hw → Prop} : wp (evTs Φ .nil ρ h) Q E = Q true h := by rw [evTs]; rfl
theorem wp_tsc {t : IT} {ts : ITs} {Q : Bool → Hw → Prop} : wp (evTs Φ (.cons t ts) ρ h) Q E = wp (evT Φ t ρ h) (fun k h => br k (wp (evTs Φ ts ρ h) Q E) (Q false h)) E := by
  rw [evTs, wp_bind]
  refine wpc fun k h => ?_; cases k <;> rfl
theorem wp_io {l : IL} {Q : List W × Gu → Hw → Prop} : wp (evI Φ (.of l) ρ h) Q E = wp (evL Φ l ρ h) (fun q h => Q (q.1, q.2.1) h) E := by
  rw [evI, wp_bind]; rfl
theorem wp_i1 {a : IE} {Q : List W × Gu → Hw → Prop} : wp (evI Φ (.rng1 a) ρ h) Q E = wp (evE Φ a ρ h) (fun x h => wo (intW x) fun j => (-(2 ^ 62) ≤ j ∧ j < 2 ^ 62) ∧ Q (rng 0 j.toNat, []) h) E := by
  rw [evI, wp_bind]
  refine wpc fun x h => ?_
  cases x <;> try rfl
  rename_i j
  dsimp only [intW, wo]
  by_cases c : -(2 ^ 62) ≤ j ∧ j < 2 ^ 62
  · rw [if_pos c]; exact propext ⟨fun q => ⟨c, q⟩, fun q => q.2⟩
  · rw [if_neg c]; simp only [c, wp_err, false_and]
theorem wp_i3 {a b : IE} {Q : List W × Gu → Hw → Prop} : wp (evI Φ (.rng3 a b) ρ h) Q E = wp (evE Φ a ρ h) (fun x h => wp (evE Φ b ρ h) (fun y h => wo (intW x) fun i => wo (intW y) fun j => (-(2 ^ 62) ≤ i ∧ i < 2 ^ 62 ∧ -(2 ^ 62) ≤ j ∧ j < 2 ^ 62) ∧ Q (rngd i (i - j).toNat, []) h) E) E := by
  rw [evI, wp_bind]
  refine wpc fun x h => (wp_bind).trans ?_
  refine wpc fun y h => ?_
  cases x <;> cases y <;> try rfl
  rename_i i j
  dsimp only [intW, wo]
  by_cases c : -(2 ^ 62) ≤ i ∧ i < 2 ^ 62 ∧ -(2 ^ 62) ≤ j ∧ j < 2 ^ 62
  · rw [if_pos c]; exact propext ⟨fun q => ⟨c, q⟩, fun q => q.2⟩
  · rw [if_neg c]; simp only [c, wp_err, false_and]
def rgW : W → Option (Int × Int) | .rg i j => some (i, j) | _ => none
theorem rgW_rg {i j : Int} : rgW (.rg i j) = some (i, j) := rfl
theorem wp_iv {e : IE} {Q : List W × Gu → Hw → Prop} : wp (evI Φ (.rgv e) ρ h) Q E = wp (evE Φ e ρ h) (fun x h => wo (rgW x) fun p => (-(2 ^ 62) ≤ p.1 ∧ p.1 < 2 ^ 62 ∧ -(2 ^ 62) ≤ p.2 ∧ p.2 < 2 ^ 62) ∧ Q (rng p.1 (p.2 - p.1).toNat, []) h) E := by
  rw [evI, wp_bind]
  refine wpc fun x h => ?_
  cases x <;> try rfl
  rename_i i j
  dsimp only [rgW, wo]
  by_cases c : -(2 ^ 62) ≤ i ∧ i < 2 ^ 62 ∧ -(2 ^ 62) ≤ j ∧ j < 2 ^ 62
  · rw [if_pos c]; exact propext ⟨fun q => ⟨c, q⟩, fun q => q.2⟩
  · rw [if_neg c]; simp only [c, wp_err, false_and]
theorem wp_i2 {a b : IE} {Q : List W × Gu → Hw → Prop} : wp (evI Φ (.rng2 a b) ρ h) Q E = wp (evE Φ a ρ h) (fun x h => wp (evE Φ b ρ h) (fun y h => wo (intW x) fun i => wo (intW y) fun j => (-(2 ^ 62) ≤ i ∧ i < 2 ^ 62 ∧ -(2 ^ 62) ≤ j ∧ j < 2 ^ 62) ∧ Q (rng i (j - i).toNat, []) h) E) E := by
  rw [evI, wp_bind]
  refine wpc fun x h => (wp_bind).trans ?_
  refine wpc fun y h => ?_
  cases x <;> cases y <;> try rfl
  rename_i i j
  dsimp only [intW, wo]
  by_cases c : -(2 ^ 62) ≤ i ∧ i < 2 ^ 62 ∧ -(2 ^ 62) ≤ j ∧ j < 2 ^ 62
  · rw [if_pos c]; exact propext ⟨fun q => ⟨c, q⟩, fun q => q.2⟩
  · rw [if_neg c]; simp only [c, wp_err, false_and]
theorem wp_iz {a b : IL} {Q : List W × Gu → Hw → Prop} : wp (evI Φ (.zip a b) ρ h) Q E = wp (evL Φ a ρ h) (fun p h => wp (evL Φ b ρ h) (fun q h => p.2.2 = q.2.2 ∧ Q ((p.1.zip q.1).map fun z => .tup [z.1, z.2], p.2.1 ++ q.2.1) h) E) E := by
  rw [evI, wp_bind]
  refine wpc fun p h => (wp_bind).trans ?_
  refine wpc fun q h => ?_
  by_cases c : p.2.2 = q.2.2
  · rw [if_pos c]; simp [c, wp_ok]
  · rw [if_neg c]; simp [c, wp_err]
theorem wp_ie {a : IL} {Q : List W × Gu → Hw → Prop} : wp (evI Φ (.enum a) ρ h) Q E = wp (evL Φ a ρ h) (fun p h => p.2.2 = false ∧ Q (((List.range p.1.length).zip p.1).map fun z => .tup [.int (z.1 : Nat), z.2], p.2.1) h) E := by
  rw [evI, wp_bind]
  refine wpc fun p h => ?_
  by_cases c : p.2.2 = false
  · rw [if_pos c]; simp [c, wp_ok]
  · rw [if_neg c]; simp [c, wp_err]
end

/-! operators -/
section
variable {h : Hw} {Q : W → Hw → Prop} {E : Ex → Hw → Prop} {i j k : Int}
theorem if_wp {α : Type} {Q : α → Hw → Prop} {c : Prop} [Decidable c] {r : Res α} : wp (if c then r else .err) Q E = (c ∧ wp r Q E) := by
  by_cases z : c
  · rw [if_pos z]; exact propext ⟨fun q => ⟨z, q⟩, fun q => q.2⟩
  · rw [if_neg z]; exact propext ⟨fun q => q.elim, fun q => z q.1⟩
theorem wb_add : wp (bop .add (.int i) (.int j) h) Q E = Q (.int (i + j)) h := rfl
theorem wb_sub : wp (bop .sub (.int i) (.int j) h) Q E = Q (.int (i - j)) h := rfl
theorem wb_mulR (c : -18446744073709551616 < j ∧ j < 18446744073709551616) : wp (bop .mul (.int i) (.int j) h) Q E = Q (.int (i * j)) h := by
  have : mulOk i j = true := by unfold mulOk; simp; right; omega
  show wp (if _ then _ else _) Q E = _
  rw [if_pos this]; rfl
theorem wb_mulL (c : -18446744073709551616 < i ∧ i < 18446744073709551616) : wp (bop .mul (.int i) (.int j) h) Q E = Q (.int (i * j)) h := by
  have : mulOk i j = true := by unfold mulOk; simp; left; omega
  show wp (if _ then _ else _) Q E = _
  rw [if_pos this]; rfl
theorem divOk_of (c : 0 < j ∧ j < 1000000000000000000000000000000000000000000) : divOk j = true := by
  unfold divOk; simp; omega
theorem wb_div (c : 0 < j ∧ j < 1000000000000000000000000000000000000000000) : wp (bop .fdiv (.int i) (.int j) h) Q E = Q (.int (i / j)) h := by
  show wp (if _ then _ else _) Q E = _
  rw [if_pos (divOk_of c)]; rfl
theorem wb_mod (c : 0 < j) : wp (bop .mod (.int i) (.int j) h) Q E = Q (.int (i % j)) h := by
  show wp (if _ then _ else _) Q E = _
  rw [if_pos c]; rfl
theorem wb_pow (c : (0 ≤ j ∧ j ≤ 1000) ∧ -18446744073709551616 < i ∧ i < 18446744073709551616) : wp (bop .pow (.int i) (.int j) h) Q E = Q (.int (i ^ j.toNat)) h := by
  have : powOk i j = true := by unfold powOk; simp; omega
  show wp (if _ then _ else _) Q E = _
  rw [if_pos this]; rfl
theorem wb_addT {xs ys : List W} : wp (bop .add (.tup xs) (.tup ys) h) Q E = (xs.length + ys.length ≤ 16777216 ∧ Q (.tup (xs ++ ys)) h) := if_wp
theorem wb_mulT {xs : List W} : wp (bop .mul (.tup xs) (.int k) h) Q E = ((xs.length * k.toNat ≤ 1000000 ∧ k ≤ 1000000 ∧ -4611686018427387904 < k) ∧ Q (.tup (List.replicate k.toNat xs).flatten) h) := if_wp
theorem mulT_ok {n : Nat} {k : Int} (a : n ≤ 1000) (b : k ≤ 1000) (c : -4611686018427387904 < k) : n * k.toNat ≤ 1000000 ∧ k ≤ 1000000 ∧ -4611686018427387904 < k :=
  ⟨Nat.mul_le_mul a (show k.toNat ≤ 1000 by omega), by omega, c⟩
theorem wb_addL {p q : Nat} : wp (bop .add (.ref p) (.ref q) h) Q E = wo (lstAt h p) fun xs => wo (lstAt h q) fun ys => xs.length + ys.length ≤ 16777216 ∧ Q (.ref h.length) (h ++ [.lst (xs ++ ys)]) := by
  show wp (match h[p]?, h[q]? with
    | some (.lst xs), some (.lst ys) => if xs.length + ys.length ≤ lim then .ok (.ref h.length) (h ++ [.lst (xs ++ ys)]) else .err
    | _, _ => .err) Q E = _
  unfold lstAt
  cases h[p]? with
  | none => rfl
  | some o => cases o with
    | dic _ => rfl
    | lst xs => cases h[q]? with
      | none => rfl
      | some o => cases o with
        | dic _ => rfl
        | lst ys => exact if_wp
theorem wb_mulLs {p : Nat} : wp (bop .mul (.ref p) (.int k) h) Q E = wo (lstAt h p) fun xs => (xs.length * k.toNat ≤ 16777216 ∧ k < 4611686018427387904 ∧ -4611686018427387904 < k) ∧ Q (.ref h.length) (h ++ [.lst (List.replicate k.toNat xs).flatten]) := by
  show wp (match h[p]? with
    | some (.lst xs) => if xs.length * k.toNat ≤ lim ∧ k < 2 ^ 62 ∧ -(2 ^ 62) < k then .ok (.ref h.length) (h ++ [.lst (List.replicate k.toNat xs).flatten]) else .err
    | _ => .err) Q E = _
  unfold lstAt
  cases h[p]? with
  | none => rfl
  | some o => cases o with
    | dic _ => rfl
    | lst xs => exact if_wp
theorem wn_neg : wp (negW (.int i) h) Q E = Q (.int (-i)) h := rfl
theorem wc_eq {a b : W} : wp (cmp .eq a b h) Q E = wo (eqW a b h) fun k => Q (.bl k) h := by
  show wp (match eqW a b h with | some k => .ok (.bl k) h | none => .err) Q E = _
  cases eqW a b h <;> rfl
theorem wc_ne {a b : W} : wp (cmp .ne a b h) Q E = wo (eqW a b h) fun k => Q (.bl (!k)) h := by
  show wp (match eqW a b h with | some k => .ok (.bl (!k)) h | none => .err) Q E = _
  cases eqW a b h <;> rfl
theorem wc_in {a b : W} : wp (cmp .inn a b h) Q E = wo (inW a b h) fun k => Q (.bl k) h := by
  show wp (match inW a b h with | some k => .ok (.bl k) h | none => .err) Q E = _
  cases inW a b h <;> rfl
theorem wc_nin {a b : W} : wp (cmp .nin a b h) Q E = wo (inW a b h) fun k => Q (.bl (!k)) h := by
  show wp (match inW a b h with | some k => .ok (.bl (!k)) h | none => .err) Q E = _
  cases inW a b h <;> rfl
theorem mt_ix {p : Nat} {v : W} : wp (mt .index (.ref p) [v] h) Q E = wo (ixW v (.ref p) h) fun k => Q (.int k) h := by
  show wp (match ixW v (.ref p) h with | some k => .ok (.int k) h | none => .err) Q E = _
  cases ixW v (.ref p) h <;> rfl
theorem wc_lt : wp (cmp .lt (.int i) (.int j) h) Q E = Q (.bl (decide (i < j))) h := rfl
theorem wc_le : wp (cmp .le (.int i) (.int j) h) Q E = Q (.bl (decide (i ≤ j))) h := rfl
theorem wc_gt : wp (cmp .gt (.int i) (.int j) h) Q E = Q (.bl (decide (j < i))) h := rfl
theorem wc_ge : wp (cmp .ge (.int i) (.int j) h) Q E = Q (.bl (decide (j ≤ i))) h := rfl
def isNon : W → Bool | .non => true | _ => false
theorem wc_isN {a b : W} : wp (cmp .isN a b h) Q E = Q (.bl (isNon a)) h := by cases a <;> rfl
theorem wc_notN {a b : W} : wp (cmp .notN a b h) Q E = Q (.bl (!isNon a)) h := by cases a <;> rfl
theorem isNon_non : isNon .non = true := rfl
theorem isNon_bl {b : Bool} : isNon (.bl b) = false := rfl
theorem isNon_int : isNon (.int i) = false := rfl
theorem isNon_str {x : Str} : isNon (.str x) = false := rfl
theorem isNon_tup {xs : List W} : isNon (.tup xs) = false := rfl
theorem isNon_fl {xs : List W} : isNon (.fl xs) = false := rfl
theorem isNon_ref {n : Nat} : isNon (.ref n) = false := rfl
theorem eqv_int (i j : Int) : PyData.eqv (.int i) (.int j) = decide (i = j) := by
  unfold PyData.eqv; rfl
theorem eqW_int : eqW (.int i) (.int j) h = some (decide (i = j)) := by
  show (if (PyData.int i).depth ≤ 64 ∧ (PyData.int j).depth ≤ 64 then some (PyData.eqv (.int i) (.int j)) else none) = _
  rw [if_pos (by constructor <;> simp [PyData.depth]), eqv_int]
theorem eqW_bl {a b : Bool} : eqW (.bl a) (.bl b) h = some (decide (a = b)) := by
  cases a <;> cases b <;> rfl
theorem tr_non : truth .non h = some false := rfl
theorem tr_bl {b : Bool} : truth (.bl b) h = some b := rfl
theorem tr_int : truth (.int i) h = some (i != 0) := rfl
theorem tr_tup {xs : List W} : truth (.tup xs) h = some (!xs.isEmpty) := rfl
theorem item_int {a : W} : wp (item a (.int k) h) Q E = wo (seqOf h a) fun xs => wo (ixN xs.length k) fun j => wo (xs[j]?) fun v => Q v h := by
  show wp (match seqOf h a with
    | some xs => match ixN xs.length k with
      | some j => match xs[j]? with
        | some v => .ok v h
        | none => .err
      | none => .err
    | none => .err) Q E = _
  cases seqOf h a with
  | none => rfl
  | some xs =>
    simp only [wo_some]
    cases ixN xs.length k with
    | none => rfl
    | some j =>
      simp only [wo_some]
      cases xs[j]? <;> rfl
theorem ixN_in {n : Nat} (c : 0 ≤ k ∧ k < n) : ixN n k = some k.toNat := by
  unfold ixN; rw [if_pos c.1, if_pos c.2]
theorem ixN_neg {n : Nat} (c : k < 0 ∧ -(n : Int) ≤ k) : ixN n k = some (k + n).toNat := by
  unfold ixN; rw [if_neg (by omega), if_pos c.2]
theorem sl_tup {xs : List W} {lo hi : Option Int} : wp (slice (.tup xs) lo hi h) Q E = Q (.tup (cut xs lo hi)) h := rfl
theorem sl_ref {n : Nat} {lo hi : Option Int} : wp (slice (.ref n) lo hi h) Q E = wo (lstAt h n) fun xs => Q (.ref h.length) (h ++ [.lst (cut xs lo hi)]) := by
  show wp (match h[n]? with
    | some (.lst xs) => .ok (.ref h.length) (h ++ [.lst (cut xs lo hi)])
    | _ => .err) Q E = _
  unfold lstAt
  cases h[n]? with
  | none => rfl
  | some o => cases o <;> rfl
theorem bi_len {a : W} : wp (bi .len [a] h) Q E = wo (seqOf h a) fun xs => Q (.int xs.length) h := by
  show wp (match seqOf h a with | some xs => .ok (.int xs.length) h | none => .err) Q E = _
  cases seqOf h a <;> rfl
theorem bi_abs : wp (bi .abs [.int i] h) Q E = Q (.int (if i < 0 then -i else i)) h := rfl
theorem bi_int : wp (bi .toInt [.int i] h) Q E = Q (.int i) h := rfl
theorem bi_intb {b : Bool} : wp (bi .toInt [.bl b] h) Q E = Q (.int (if b then 1 else 0)) h := rfl
theorem bi_isI {a : W} {t : Ty} : wp (bi (.isI t) [a] h) Q E = wo (isTy a t h) fun k => Q (.bl k) h := by
  show wp (match isTy a t h with | some k => .ok (.bl k) h | none => .err) Q E = _
  cases isTy a t h <;> rfl
theorem bi_max : wp (bi .max2 [.int i, .int j] h) Q E = Q (.int (max i j)) h := by
  show Q (.int (if j > i then j else i)) h = Q (.int (max i j)) h
  congr 2; split <;> omega
theorem bi_min : wp (bi .min2 [.int i, .int j] h) Q E = Q (.int (min i j)) h := by
  show Q (.int (if j < i then j else i)) h = Q (.int (min i j)) h
  congr 2; split <;> omega
theorem bi_divmod (c : 0 < j ∧ j < 1000000000000000000000000000000000000000000) : wp (bi .divmod [.int i, .int j] h) Q E = Q (.tup [.int (i / j), .int (i % j)]) h := by
  show wp (if _ then _ else _) Q E = _
  rw [if_pos (divOk_of c)]; rfl
theorem bi_lcm (c : (0 ≤ i ∧ i < 18446744073709551616) ∧ 0 ≤ j ∧ j < 18446744073709551616) : wp (bi .lcm [.int i, .int j] h) Q E = Q (.int ((i.natAbs.lcm j.natAbs : Nat) : Int)) h := by
  show wp (if _ then _ else _) Q E = _
  rw [if_pos (by omega)]; rfl
theorem bi_gcd : wp (bi .gcd [.int i, .int j] h) Q E = Q (.int ((i.natAbs.gcd j.natAbs : Nat) : Int)) h := rfl
theorem bl_sum {xs : List W} : wp (bl .sum xs h) Q E = wo (toInts xs) fun ns => Q (.int ns.sum) h := by
  show wp (match toInts xs with | some ns => .ok (.int ns.sum) h | none => .err) Q E = _
  cases toInts xs <;> rfl
theorem bl_tuple {xs : List W} : wp (bl .tuple xs h) Q E = Q (.tup xs) h := rfl
theorem bl_list {xs : List W} : wp (bl .list xs h) Q E = Q (.ref h.length) (h ++ [.lst xs]) := rfl
theorem bl_len {xs : List W} : wp (bl .len xs h) Q E = Q (.int xs.length) h := rfl
theorem bl_max {xs : List W} : wp (bl .max xs h) Q E = wo (toInts xs) fun ns => ns ≠ [] ∧ Q (.int (maxL ns)) h := by
  show wp (match toInts xs with | some (n :: ns) => .ok (.int (maxL (n :: ns))) h | _ => .err) Q E = _
  cases toInts xs with
  | none => rfl
  | some ns => cases ns with
    | nil => exact propext ⟨fun q => q.elim, fun q => q.1 rfl⟩
    | cons n ns => exact propext ⟨fun q => ⟨by simp, q⟩, fun q => q.2⟩
theorem bl_min {xs : List W} : wp (bl .min xs h) Q E = wo (toInts xs) fun ns => ns ≠ [] ∧ Q (.int (minL ns)) h := by
  show wp (match toInts xs with | some (n :: ns) => .ok (.int (minL (n :: ns))) h | _ => .err) Q E = _
  cases toInts xs with
  | none => rfl
  | some ns => cases ns with
    | nil => exact propext ⟨fun q => q.elim, fun q => q.1 rfl⟩
    | cons n ns => exact propext ⟨fun q => ⟨by simp, q⟩, fun q => q.2⟩
theorem mt_app {p : Nat} {v : W} : wp (mt .append (.ref p) [v] h) Q E = wo (lstAt h p) fun xs => xs.length < 16777216 ∧ Q .non (h.set p (.lst (xs ++ [v]))) := by
  show wp (match h[p]? with
    | some (.lst xs) => if xs.length < lim then .ok .non (h.set p (.lst (xs ++ [v]))) else .err
    | _ => .err) Q E = _
  unfold lstAt
  cases h[p]? with
  | none => rfl
  | some o => cases o with
    | dic _ => rfl
    | lst xs => exact if_wp
theorem mt_ext {p q : Nat} : wp (mt .extend (.ref p) [.ref q] h) Q E = wo (lstAt h p) fun xs => wo (lstAt h q) fun ys => xs.length + ys.length ≤ 16777216 ∧ Q .non (h.set p (.lst (xs ++ ys))) := by
  show wp (match h[p]?, h[q]? with
    | some (.lst xs), some (.lst ys) => if xs.length + ys.length ≤ lim then .ok .non (h.set p (.lst (xs ++ ys))) else .err
    | _, _ => .err) Q E = _
  unfold lstAt
  cases h[p]? with
  | none => rfl
  | some o => cases o with
    | dic _ => rfl
    | lst xs => cases h[q]? with
      | none => rfl
      | some o => cases o with
        | dic _ => rfl
        | lst ys => exact if_wp
theorem mt_pp {p : Nat} : wp (mt .pop (.ref p) [] h) Q E = wo (lstAt h p) fun xs => wo (xs[xs.length - 1]?) fun v => Q v (h.set p (.lst xs.dropLast)) := by
  show wp (match h[p]? with
    | some (.lst xs) => match xs[xs.length - 1]? with
      | some v => .ok v (h.set p (.lst xs.dropLast))
      | none => .err
    | _ => .err) Q E = _
  unfold lstAt
  cases h[p]? with
  | none => rfl
  | some o => cases o with
    | dic _ => rfl
    | lst xs =>
      simp only [wo_some]
      cases xs[xs.length - 1]? <;> rfl
theorem mt_ppA {p : Nat} : wp (mt .popAt (.ref p) [.int i] h) Q E = ((-4611686018427387904 ≤ i ∧ i < 4611686018427387904) ∧ wo (lstAt h p) fun xs => wo (ixN xs.length i) fun k => wo (xs[k]?) fun v => Q v (h.set p (.lst (xs.eraseIdx k)))) := by
  show wp (if -(2 ^ 62) ≤ i ∧ i < 2 ^ 62 then match h[p]? with
    | some (.lst xs) => match ixN xs.length i with
      | some k => match xs[k]? with
        | some v => .ok v (h.set p (.lst (xs.eraseIdx k)))
        | none => .err
      | none => .err
    | _ => .err
    else .err) Q E = _
  rw [if_wp]
  congr 1
  unfold lstAt
  cases h[p]? with
  | none => rfl
  | some o => cases o with
    | dic _ => rfl
    | lst xs =>
      simp only [wo_some]
      cases ixN xs.length i with
      | none => rfl
      | some k =>
        simp only [wo_some]
        cases xs[k]? <;> rfl
theorem mtW_ref {n : Nat} : mtW (.ref n) h = lstAt h n := rfl
end

/-! statements -/
section
variable {Φ : Fn} {ρ : En} {h : Hw} {Q : Fl → En → Hw → Prop}
def sq (Φ : Fn) (ss : ISs) (Q : Fl → En → Hw → Prop) : Fl → En → Hw → Prop
  | .next, ρ, h => wps (evSs Φ ss ρ h) Q
  | f, ρ, h => Q f ρ h
theorem sq_n {ss : ISs} : sq Φ ss Q .next ρ h = wps (evSs Φ ss ρ h) Q := rfl
theorem sq_b {ss : ISs} : sq Φ ss Q .brk ρ h = Q .brk ρ h := rfl
theorem sq_c {ss : ISs} : sq Φ ss Q .cont ρ h = Q .cont ρ h := rfl
theorem sq_r {ss : ISs} {w : W} : sq Φ ss Q (.ret w) ρ h = Q (.ret w) ρ h := rfl
theorem sq_z {ss : ISs} {e : Ex} : sq Φ ss Q (.rz e) ρ h = Q (.rz e) ρ h := rfl
theorem ws_n : wps (evSs Φ .nil ρ h) Q = Q .next ρ h := by rw [evSs]; rfl
theorem ws_c {s : IS} {ss : ISs} : wps (evSs Φ (.cons s ss) ρ h) Q = wps (evS Φ s ρ h) (sq Φ ss Q) := by
  rw [evSs]
  cases evS Φ s ρ h with
  | err => rfl
  | exc _ _ => rfl
  | ok q h => obtain ⟨f, ρ⟩ := q; cases f <;> rfl
theorem ws_expr {e : IE} : wps (evS Φ (.expr e) ρ h) Q = wp (evE Φ e ρ h) (fun _ h => Q .next ρ h) fun e h => Q (.rz e) ρ h := by rw [evS, wps_st]; rfl
theorem ws_asg {t : IG} {e : IE} : wps (evS Φ (.asg t e) ρ h) Q = wp (evE Φ e ρ h) (fun x h => wo (asg t x ρ) fun ρ' => Q .next ρ' h) fun e h => Q (.rz e) ρ h := by
  rw [evS, wps_st]
  refine wpc fun x h => ?_
  cases asg t x ρ <;> rfl
theorem ws_set {o i e : IE} : wps (evS Φ (.set o i e) ρ h) Q = wp (evE Φ e ρ h) (fun v h => wp (evE Φ o ρ h) (fun x h => wp (evE Φ i ρ h) (fun y h => wo (setIt x y v h) fun h' => Q .next ρ h') fun e h => Q (.rz e) ρ h) fun e h => Q (.rz e) ρ h) fun e h => Q (.rz e) ρ h := by
  rw [evS, wps_st]
  refine wpc fun v h => ?_
  rw [wps_st]
  refine wpc fun x h => ?_
  rw [wps_st]
  refine wpc fun y h => ?_
  cases setIt x y v h <;> rfl
theorem ws_bad : wps (evS Φ .bad ρ h) Q = False := by
  rw [evS]
  rfl
theorem itemL_wp {x y : W} {E : Ex → Hw → Prop} {Q : W → Hw → Prop} : wp (itemL x y h) Q E = wo (match x, y with | .ref p, .int k => (match lstAt h p with | some xs => if 0 ≤ k then xs[k.toNat]? else none | none => none) | _, _ => none) fun v => Q v h := by
  cases x <;> cases y <;> try rfl
  rename_i p k
  show wp (match h[p]? with
      | some (.lst xs) => if 0 ≤ k then (match xs[k.toNat]? with | some v => Res.ok v h | none => .err) else .err
      | _ => .err) Q E = wo (match lstAt h p with | some xs => if 0 ≤ k then xs[k.toNat]? else none | none => none) fun v => Q v h
  unfold lstAt
  cases h[p]? with
  | none => rfl
  | some o => cases o with
    | dic _ => rfl
    | lst xs =>
      dsimp only
      by_cases c : 0 ≤ k
      · rw [if_pos c, if_pos c]
        cases xs[k.toNat]? <;> rfl
      · rw [if_neg c, if_neg c]; rfl
theorem ws_augS {o i e : IE} {p : Bop} : wps (evS Φ (.augS o i p e) ρ h) Q = wp (evE Φ o ρ h) (fun x h => wp (evE Φ i ρ h) (fun y h => wp (itemL x y h) (fun w h => wp (evE Φ e ρ h) (fun v h => wo (augO p w v) fun z => wo (setIt x y z h) fun h' => Q .next ρ h') fun e h => Q (.rz e) ρ h) fun e h => Q (.rz e) ρ h) fun e h => Q (.rz e) ρ h) fun e h => Q (.rz e) ρ h := by
  rw [evS, wps_st]
  refine wpc fun x h => ?_
  rw [wps_st]
  refine wpc fun y h => ?_
  rw [wps_st]
  refine wpc fun w h => ?_
  rw [wps_st]
  refine wpc fun v h => ?_
  cases augO p w v with
  | none => rfl
  | some z =>
    dsimp only [wo]
    cases setIt x y z h <;> rfl
theorem itemL_ref {p : Nat} {k : Int} {xs : List W} {E : Ex → Hw → Prop} {Q : W → Hw → Prop} (e : lstAt h p = some xs) (hk : 0 ≤ k) : wp (itemL (.ref p) (.int k) h) Q E = wo (xs[k.toNat]?) fun v => Q v h := by
  rw [itemL_wp]
  dsimp only
  rw [e]
  dsimp only
  rw [if_pos hk]
theorem augO_a {a b : Int} : augO .add (.int a) (.int b) = some (.int (a + b)) := rfl
theorem augO_s {a b : Int} : augO .sub (.int a) (.int b) = some (.int (a - b)) := rfl
def augW (o : Bop) (x y : W) : Option W := match o, x, y with
  | .add, .int a, .int b => some (.int (a + b))
  | .sub, .int a, .int b => some (.int (a - b))
  | _, _, _ => none
theorem aug_add {a b : Int} : augW .add (.int a) (.int b) = some (.int (a + b)) := rfl
theorem aug_sub {a b : Int} : augW .sub (.int a) (.int b) = some (.int (a - b)) := rfl
theorem ws_aug {i : Nat} {o : Bop} {e : IE} : wps (evS Φ (.aug i o e) ρ h) Q = wo (look ρ i) fun x => wp (evE Φ e ρ h) (fun y h => wo (augW o x y) fun w => Q .next (ρ.set i (some w)) h) fun e h => Q (.rz e) ρ h := by
  rw [evS]
  unfold look
  cases ρ[i]? with
  | none => rfl
  | some z => cases z with
    | none => rfl
    | some x =>
      dsimp only [wo]
      rw [wps_st]
      refine wpc fun y h => ?_
      cases o <;> cases x <;> try rfl
      all_goals cases y <;> rfl
theorem ws_if {c : IT} {a b : ISs} : wps (evS Φ (.ifs c a b) ρ h) Q = wp (evT Φ c ρ h) (fun k h => br k (wps (evSs Φ a ρ h) Q) (wps (evSs Φ b ρ h) Q)) fun e h => Q (.rz e) ρ h := by
  rw [evS, wps_st]
  refine wpc fun k h => ?_
  cases k <;> rfl
theorem ws_for {t : IG} {it : II} {b : ISs} : wps (evS Φ (.for t it b) ρ h) Q = wp (evI Φ it ρ h) (fun q h => wps (forL t q.2 (fun ρ h => evSs Φ b ρ h) q.1 ρ h) Q) fun e h => Q (.rz e) ρ h := by
  rw [evS, wps_st]
theorem ws_whl {c : IT} {b : ISs} : wps (evS Φ (.whl c b) ρ h) Q = wps (whl (fun ρ h => evT Φ c ρ h) (fun ρ h => evSs Φ b ρ h) ρ h) Q := by rw [evS]
theorem ws_ret {e : IE} : wps (evS Φ (.ret e) ρ h) Q = wp (evE Φ e ρ h) (fun x h => Q (.ret x) ρ h) fun e h => Q (.rz e) ρ h := by rw [evS, wps_st]; rfl
theorem ws_retN : wps (evS Φ .retN ρ h) Q = Q (.ret .non) ρ h := by rw [evS]; rfl
theorem ws_brk : wps (evS Φ .brk ρ h) Q = Q .brk ρ h := by rw [evS]; rfl
theorem ws_cont : wps (evS Φ .cont ρ h) Q = Q .cont ρ h := by rw [evS]; rfl
theorem ws_pass : wps (evS Φ .pass ρ h) Q = Q .next ρ h := by rw [evS]; rfl
theorem asg_var {i : Nat} {w : W} : asg (.var i) w ρ = some (ρ.set i (some w)) := by rw [asg]
theorem asg_tup2 {i j : Nat} {x y : W} : asg (.tup [.var i, .var j]) (.tup [x, y]) ρ = some ((ρ.set i (some x)).set j (some y)) := by
  rw [asg]; simp [asgs, asg]
theorem asg_tup3 {i j k : Nat} {x y z : W} : asg (.tup [.var i, .var j, .var k]) (.tup [x, y, z]) ρ = some (((ρ.set i (some x)).set j (some y)).set k (some z)) := by
  rw [asg]; simp [asgs, asg]
theorem setIt_ref {p : Nat} {k : Int} {v : W} {Q : Hw → Prop} : wo (setIt (.ref p) (.int k) v h) Q = wo (lstAt h p) fun xs => wo (ixN xs.length k) fun j => Q (h.set p (.lst (xs.set j v))) := by
  show wo (match h[p]? with
    | some (.lst xs) => match ixN xs.length k with
      | some j => some (h.set p (.lst (xs.set j v)))
      | none => none
    | _ => none) Q = _
  unfold lstAt
  cases h[p]? with
  | none => rfl
  | some o => cases o with
    | dic _ => rfl
    | lst xs =>
      simp only [wo_some]
      cases ixN xs.length k <;> rfl
end
end Ev

set_option Elab.async false
set_option linter.all false
set_option maxRecDepth 100000
/-! Wp2: loops, calls. -/
namespace Ev
open PySem

theorem guard_go {α : Type} {g : Gu} {h : Hw} {r : Res α} (c : guOk g h) : guard g h r = r := by unfold guard; rw [if_pos c]
theorem guOk_nil {h : Hw} : guOk [] h := fun p hp => by simp at hp
theorem guOk_one {h : Hw} {n : Nat} {xs : List W} (e : lstAt h n = some xs) : guOk [(n, xs)] h := fun p hp => by
  rw [List.mem_singleton.mp hp]; exact lstAt_get e

section
variable {α : Type}
/-- a loop over the items f a of a list of things a; I: what holds when `pre` is done -/
theorem wps_for (f : α → W) (as : List α) {t : IG} {gu : Gu} {body : En → Hw → Rs} {Q : Fl → En → Hw → Prop} (I : List α → En → Hw → Prop)
    (hg : ∀ pre ρ h, I pre ρ h → guOk gu h)
    (step : ∀ pre a suf ρ h, as = pre ++ a :: suf → I pre ρ h → wo (asg t (f a) ρ) fun ρ' => wps (body ρ' h) fun fl ρ h => match fl with
      | .next => I (pre ++ [a]) ρ h
      | .cont => I (pre ++ [a]) ρ h
      | .brk => Q .next ρ h
      | .ret w => Q (.ret w) ρ h
      | .rz e => Q (.rz e) ρ h)
    {ρ : En} {h : Hw} (i0 : I [] ρ h) (fin : ∀ ρ h, I as ρ h → Q .next ρ h) : wps (forL t gu body (as.map f) ρ h) Q := by
  have : ∀ (suf pre : List α) (ρ : En) (h : Hw), as = pre ++ suf → I pre ρ h → wps (forL t gu body (suf.map f) ρ h) Q := by
    intro suf
    induction suf with
    | nil =>
      intro pre ρ h e i
      rw [List.append_nil] at e
      subst e
      rw [List.map_nil, forL, guard_go (hg _ _ _ i)]
      exact fin _ _ i
    | cons a suf ih =>
      intro pre ρ h e i
      rw [List.map_cons, forL, guard_go (hg _ _ _ i)]
      have s := step pre a suf ρ h e i
      cases ea : asg t (f a) ρ with
      | none => rw [ea] at s; exact s.elim
      | some ρ' =>
        rw [ea] at s
        dsimp only
        cases eb : body ρ' h with
        | err => rw [wo_some, eb] at s; exact s.elim
        | exc _ _ => rw [wo_some, eb] at s; exact s.elim
        | ok q h2 =>
          obtain ⟨fl, ρ2⟩ := q
          rw [wo_some, eb] at s
          cases fl with
          | next => exact ih (pre ++ [a]) _ _ (by rw [e]; simp) s
          | cont => exact ih (pre ++ [a]) _ _ (by rw [e]; simp) s
          | brk => exact s
          | ret w => exact s
          | rz e => exact s
  exact this as [] ρ h rfl i0
theorem rng_map (lo : Int) (n : Nat) : rng lo n = (List.range n).map fun (i : Nat) => W.int (lo + (i : Int)) := rfl
theorem range_split {n a : Nat} {pre suf : List Nat} (e : List.range n = pre ++ a :: suf) : pre = List.range a ∧ a < n := by
  have hl : pre.length < n := by
    have := congrArg List.length e; simp at this; omega
  have h1 : (List.range n)[pre.length]? = some a := by rw [e, List.getElem?_append_right (Nat.le_refl _)]; simp
  rw [List.getElem?_range hl] at h1
  have h2 : a = pre.length := by simpa using h1.symm
  refine ⟨?_, by omega⟩
  have : (List.range n).take pre.length = pre := by rw [e, List.take_left]
  rw [← this, h2, List.take_range]
  congr 1; omega
/-- a loop over a range; I: what holds when the first i are done -/
theorem wps_rng {lo : Int} {n : Nat} {t : IG} {body : En → Hw → Rs} {Q : Fl → En → Hw → Prop} (I : Nat → En → Hw → Prop)
    (step : ∀ i ρ h, i < n → I i ρ h → wo (asg t (.int (lo + (i : Int))) ρ) fun ρ' => wps (body ρ' h) fun fl ρ h => match fl with
      | .next => I (i + 1) ρ h
      | .cont => I (i + 1) ρ h
      | .brk => Q .next ρ h
      | .ret w => Q (.ret w) ρ h
      | .rz e => Q (.rz e) ρ h)
    {ρ : En} {h : Hw} (i0 : I 0 ρ h) (fin : ∀ ρ h, I n ρ h → Q .next ρ h) : wps (forL t [] body (rng lo n) ρ h) Q := by
  rw [rng_map]
  refine wps_for (fun (i : Nat) => W.int (lo + (i : Int))) (List.range n) (fun pre ρ h => I pre.length ρ h) (fun _ _ _ _ => guOk_nil) (fun pre a suf ρ h e i => ?_) i0 (fun ρ h i => fin ρ h (by simpa using i))
  obtain ⟨e1, e2⟩ := range_split e
  have e3 : pre.length = a := by rw [e1]; simp
  have s := step a ρ h e2 (e3 ▸ i)
  cases ea : asg t (W.int (lo + (a : Int))) ρ with
  | none => rw [ea] at s; exact s
  | some ρ' =>
    rw [ea] at s
    refine wps_mono (show wps (body ρ' h) _ from s) (fun fl ρ h q => ?_)
    cases fl <;> first | exact q | (rw [List.length_append, e3]; exact q)
theorem rngd_map (lo : Int) (n : Nat) : rngd lo n = (List.range n).map fun (i : Nat) => W.int (lo - (i : Int)) := rfl
/-- a loop over a range backwards -/
theorem wps_rngd {lo : Int} {n : Nat} {t : IG} {body : En → Hw → Rs} {Q : Fl → En → Hw → Prop} (I : Nat → En → Hw → Prop)
    (step : ∀ i ρ h, i < n → I i ρ h → wo (asg t (.int (lo - (i : Int))) ρ) fun ρ' => wps (body ρ' h) fun fl ρ h => match fl with
      | .next => I (i + 1) ρ h
      | .cont => I (i + 1) ρ h
      | .brk => Q .next ρ h
      | .ret w => Q (.ret w) ρ h
      | .rz e => Q (.rz e) ρ h)
    {ρ : En} {h : Hw} (i0 : I 0 ρ h) (fin : ∀ ρ h, I n ρ h → Q .next ρ h) : wps (forL t [] body (rngd lo n) ρ h) Q := by
  rw [rngd_map]
  refine wps_for (fun (i : Nat) => W.int (lo - (i : Int))) (List.range n) (fun pre ρ h => I pre.length ρ h) (fun _ _ _ _ => guOk_nil) (fun pre a suf ρ h e i => ?_) i0 (fun ρ h i => fin ρ h (by simpa using i))
  obtain ⟨e1, e2⟩ := range_split e
  have e3 : pre.length = a := by rw [e1]; simp
  have s := step a ρ h e2 (e3 ▸ i)
  cases ea : asg t (W.int (lo - (a : Int))) ρ with
  | none => rw [ea] at s; exact s
  | some ρ' =>
    rw [ea] at s
    refine wps_mono (show wps (body ρ' h) _ from s) (fun fl ρ h q => ?_)
    cases fl <;> first | exact q | (rw [List.length_append, e3]; exact q)
/-- a comprehension from a list so far -/
theorem wp_compA (f : α → W) (as : List α) {g : IG} {gu : Gu} {test : En → Hw → Res Bool} {elt : En → Hw → Res W} {own : List Nat} {ρ : En} {Q : List W → Hw → Prop} {E : Ex → Hw → Prop} (I : List α → Hw → List W → Prop)
    (hg : ∀ pre h acc, I pre h acc → guOk gu h)
    (step : ∀ pre a suf h acc, as = pre ++ a :: suf → I pre h acc → wo (asg g (f a) (wipe ρ own)) fun ρ' => wp (test ρ' h) (fun k h => br k (wp (elt ρ' h) (fun y h => acc.length < 16777216 ∧ I (pre ++ [a]) h (acc ++ [y])) noE) (I (pre ++ [a]) h acc)) noE)
    {h : Hw} {acc0 : List W} (i0 : I [] h acc0) (fin : ∀ h acc, I as h acc → Q acc h) : wp (compL g gu test elt own ρ (as.map f) h acc0) Q E := by
  have : ∀ (suf pre : List α) (h : Hw) (acc : List W), as = pre ++ suf → I pre h acc → wp (compL g gu test elt own ρ (suf.map f) h acc) Q E := by
    intro suf
    induction suf with
    | nil =>
      intro pre h acc e i
      rw [List.append_nil] at e
      subst e
      rw [List.map_nil, compL, guard_go (hg _ _ _ i)]
      exact fin _ _ i
    | cons a suf ih =>
      intro pre h acc e i
      rw [List.map_cons, compL, guard_go (hg _ _ _ i)]
      have s := step pre a suf h acc e i
      cases ea : asg g (f a) (wipe ρ own) with
      | none => rw [ea] at s; exact s.elim
      | some ρ' =>
        rw [ea, wo_some] at s
        dsimp only
        cases et : test ρ' h with
        | err => rw [et] at s; exact s.elim
        | exc _ _ => rw [et] at s; exact s.elim
        | ok k h1 =>
          rw [et, wp_ok] at s
          cases k with
          | false => exact ih (pre ++ [a]) _ _ (by rw [e]; simp) s
          | true =>
            dsimp only
            rw [br_t] at s
            cases ee : elt ρ' h1 with
            | err => rw [ee] at s; exact s.elim
            | exc _ _ => rw [ee] at s; exact s.elim
            | ok y h2 =>
              rw [ee, wp_ok] at s
              dsimp only
              rw [if_pos (show acc.length < lim from s.1)]
              exact ih (pre ++ [a]) _ _ (by rw [e]; simp) s.2
  exact this as [] h acc0 rfl i0
/-- two for: the outer turns -/
theorem wp_comp2 (f : α → W) (as : List α) {g : IG} {gu : Gu} {test : En → Hw → Res Bool} {inner : En → Hw → List W → Res (List W)} {own : List Nat} {ρ : En} {Q : List W → Hw → Prop} {E : Ex → Hw → Prop} (I : List α → Hw → List W → Prop)
    (hg : ∀ pre h acc, I pre h acc → guOk gu h)
    (step : ∀ pre a suf h acc, as = pre ++ a :: suf → I pre h acc → wo (asg g (f a) (wipe ρ own)) fun ρ' => wp (test ρ' h) (fun k h => br k (wp (inner ρ' h acc) (fun acc' h => I (pre ++ [a]) h acc') noE) (I (pre ++ [a]) h acc)) noE)
    {h : Hw} {acc0 : List W} (i0 : I [] h acc0) (fin : ∀ h acc, I as h acc → Q acc h) : wp (compM g gu test inner own ρ (as.map f) h acc0) Q E := by
  have : ∀ (suf pre : List α) (h : Hw) (acc : List W), as = pre ++ suf → I pre h acc → wp (compM g gu test inner own ρ (suf.map f) h acc) Q E := by
    intro suf
    induction suf with
    | nil =>
      intro pre h acc e i
      rw [List.append_nil] at e
      subst e
      rw [List.map_nil, compM, guard_go (hg _ _ _ i)]
      exact fin _ _ i
    | cons a suf ih =>
      intro pre h acc e i
      rw [List.map_cons, compM, guard_go (hg _ _ _ i)]
      have s := step pre a suf h acc e i
      cases ea : asg g (f a) (wipe ρ own) with
      | none => rw [ea] at s; exact s.elim
      | some ρ' =>
        rw [ea, wo_some] at s
        dsimp only
        cases et : test ρ' h with
        | err => rw [et] at s; exact s.elim
        | exc _ _ => rw [et] at s; exact s.elim
        | ok k h1 =>
          rw [et, wp_ok] at s
          cases k with
          | false => exact ih (pre ++ [a]) _ _ (by rw [e]; simp) s
          | true =>
            dsimp only
            rw [br_t] at s
            cases ee : inner ρ' h1 acc with
            | err => rw [ee] at s; exact s.elim
            | exc _ _ => rw [ee] at s; exact s.elim
            | ok y h2 =>
              rw [ee, wp_ok] at s
              exact ih (pre ++ [a]) _ _ (by rw [e]; simp) s
  exact this as [] h acc0 rfl i0
theorem wp_compRA {lo : Int} {n : Nat} {g : IG} {test : En → Hw → Res Bool} {elt : En → Hw → Res W} {own : List Nat} {ρ : En} {Q : List W → Hw → Prop} {E : Ex → Hw → Prop} (I : Nat → Hw → List W → Prop)
    (step : ∀ i h acc, i < n → I i h acc → wo (asg g (.int (lo + (i : Int))) (wipe ρ own)) fun ρ' => wp (test ρ' h) (fun k h => br k (wp (elt ρ' h) (fun y h => acc.length < 16777216 ∧ I (i + 1) h (acc ++ [y])) noE) (I (i + 1) h acc)) noE)
    {h : Hw} {acc0 : List W} (i0 : I 0 h acc0) (fin : ∀ h acc, I n h acc → Q acc h) : wp (compL g [] test elt own ρ (rng lo n) h acc0) Q E := by
  rw [rng_map]
  refine wp_compA (fun (i : Nat) => W.int (lo + (i : Int))) (List.range n) (fun pre h acc => I pre.length h acc) (fun _ _ _ _ => guOk_nil) (fun pre a suf h acc e i => ?_) i0 (fun h acc i => fin h acc (by simpa using i))
  obtain ⟨e1, e2⟩ := range_split e
  have e3 : pre.length = a := by rw [e1]; simp
  have e4 : (pre ++ [a]).length = a + 1 := by rw [List.length_append, e3]; rfl
  rw [e4]
  exact step a h acc e2 (e3 ▸ i)
/-- a comprehension; I: what holds when `pre` is done and acc stands -/
theorem wp_comp (f : α → W) (as : List α) {g : IG} {gu : Gu} {test : En → Hw → Res Bool} {elt : En → Hw → Res W} {own : List Nat} {ρ : En} {Q : List W → Hw → Prop} {E : Ex → Hw → Prop} (I : List α → Hw → List W → Prop)
    (hg : ∀ pre h acc, I pre h acc → guOk gu h)
    (step : ∀ pre a suf h acc, as = pre ++ a :: suf → I pre h acc → wo (asg g (f a) (wipe ρ own)) fun ρ' => wp (test ρ' h) (fun k h => br k (wp (elt ρ' h) (fun y h => acc.length < 16777216 ∧ I (pre ++ [a]) h (acc ++ [y])) noE) (I (pre ++ [a]) h acc)) noE)
    {h : Hw} (i0 : I [] h []) (fin : ∀ h acc, I as h acc → Q acc h) : wp (compL g gu test elt own ρ (as.map f) h []) Q E := by
  have : ∀ (suf pre : List α) (h : Hw) (acc : List W), as = pre ++ suf → I pre h acc → wp (compL g gu test elt own ρ (suf.map f) h acc) Q E := by
    intro suf
    induction suf with
    | nil =>
      intro pre h acc e i
      rw [List.append_nil] at e
      subst e
      rw [List.map_nil, compL, guard_go (hg _ _ _ i)]
      exact fin _ _ i
    | cons a suf ih =>
      intro pre h acc e i
      rw [List.map_cons, compL, guard_go (hg _ _ _ i)]
      have s := step pre a suf h acc e i
      cases ea : asg g (f a) (wipe ρ own) with
      | none => rw [ea] at s; exact s.elim
      | some ρ' =>
        rw [ea, wo_some] at s
        dsimp only
        cases et : test ρ' h with
        | err => rw [et] at s; exact s.elim
        | exc _ _ => rw [et] at s; exact s.elim
        | ok k h1 =>
          rw [et, wp_ok] at s
          cases k with
          | false => exact ih (pre ++ [a]) _ _ (by rw [e]; simp) s
          | true =>
            dsimp only
            rw [br_t] at s
            cases ee : elt ρ' h1 with
            | err => rw [ee] at s; exact s.elim
            | exc _ _ => rw [ee] at s; exact s.elim
            | ok y h2 =>
              rw [ee, wp_ok] at s
              dsimp only
              rw [if_pos (show acc.length < lim from s.1)]
              exact ih (pre ++ [a]) _ _ (by rw [e]; simp) s.2
  exact this as [] h [] rfl i0
theorem wp_compR {lo : Int} {n : Nat} {g : IG} {test : En → Hw → Res Bool} {elt : En → Hw → Res W} {own : List Nat} {ρ : En} {Q : List W → Hw → Prop} {E : Ex → Hw → Prop} (I : Nat → Hw → List W → Prop)
    (step : ∀ i h acc, i < n → I i h acc → wo (asg g (.int (lo + (i : Int))) (wipe ρ own)) fun ρ' => wp (test ρ' h) (fun k h => br k (wp (elt ρ' h) (fun y h => acc.length < 16777216 ∧ I (i + 1) h (acc ++ [y])) noE) (I (i + 1) h acc)) noE)
    {h : Hw} (i0 : I 0 h []) (fin : ∀ h acc, I n h acc → Q acc h) : wp (compL g [] test elt own ρ (rng lo n) h []) Q E := by
  rw [rng_map]
  refine wp_comp (fun (i : Nat) => W.int (lo + (i : Int))) (List.range n) (fun pre h acc => I pre.length h acc) (fun _ _ _ _ => guOk_nil) (fun pre a suf h acc e i => ?_) i0 (fun h acc i => fin h acc (by simpa using i))
  obtain ⟨e1, e2⟩ := range_split e
  have e3 : pre.length = a := by rw [e1]; simp
  have e4 : (pre ++ [a]).length = a + 1 := by rw [List.length_append, e3]; rfl
  rw [e4]
  exact step a h acc e2 (e3 ▸ i)
end
/-- one turn of a while loop -/
theorem whl_turn (c : En → Hw → Res Bool) (body : En → Hw → Rs) (ρ : En) (h : Hw) (r : Rs) (n : Nat) (e : whlN c body n ρ h = some r) : whl c body ρ h = r := by
  have up : ∀ n ρ h r, whlN c body n ρ h = some r → ∀ m, n ≤ m → whlN c body m ρ h = some r := by
    intro n
    induction n with
    | zero => intro ρ h r e; cases e
    | succ n ih =>
      intro ρ h r e m hm
      obtain ⟨m, rfl⟩ : ∃ k, m = k + 1 := ⟨m - 1, by omega⟩
      rw [whlN] at e ⊢
      cases ec : c ρ h with
      | err => rw [ec] at e; exact e
      | exc _ _ => rw [ec] at e; exact e
      | ok k h1 =>
        rw [ec] at e
        cases k with
        | false => exact e
        | true =>
          dsimp only at e ⊢
          cases eb : body ρ h1 with
          | err => rw [eb] at e; exact e
          | exc _ _ => rw [eb] at e; exact e
          | ok q h2 =>
            obtain ⟨fl, ρ2⟩ := q
            rw [eb] at e
            cases fl with
            | next => exact ih _ _ _ e m (by omega)
            | cont => exact ih _ _ _ e m (by omega)
            | brk => exact e
            | ret w => exact e
            | rz e' => exact e
  have x : ∃ n r, whlN c body n ρ h = some r := ⟨n, r, e⟩
  unfold whl
  rw [dif_pos x]
  have y := x.choose_spec.choose_spec
  have a := up _ _ _ _ e (max n x.choose) (Nat.le_max_left _ _)
  have b := up _ _ _ _ y (max n x.choose) (Nat.le_max_right _ _)
  rw [a] at b
  cases b; rfl
theorem wps_whl {c : En → Hw → Res Bool} {body : En → Hw → Rs} {Q : Fl → En → Hw → Prop} (I : Nat → En → Hw → Prop)
    (step : ∀ m ρ h, I m ρ h → wp (c ρ h) (fun k h => br k (wps (body ρ h) fun fl ρ h => match fl with
      | .next => ∃ m', m' < m ∧ I m' ρ h
      | .cont => ∃ m', m' < m ∧ I m' ρ h
      | .brk => Q .next ρ h
      | .ret w => Q (.ret w) ρ h
      | .rz e => Q (.rz e) ρ h) (Q .next ρ h)) (fun e h => Q (.rz e) ρ h))
    {m : Nat} {ρ : En} {h : Hw} (i0 : I m ρ h) : wps (whl c body ρ h) Q := by
  have : ∀ b m ρ h, m < b → I m ρ h → ∃ r, whlN c body b ρ h = some r ∧ wps r Q := by
    intro b
    induction b with
    | zero => intro m ρ h hb; omega
    | succ b ih =>
      intro m ρ h hb i
      have s := step m ρ h i
      rw [whlN]
      cases ec : c ρ h with
      | err => rw [ec] at s; exact s.elim
      | exc e h1 => rw [ec] at s; exact ⟨_, rfl, s⟩
      | ok k h1 =>
        rw [ec, wp_ok] at s
        cases k with
        | false => exact ⟨_, rfl, s⟩
        | true =>
          rw [br_t] at s
          dsimp only
          cases eb : body ρ h1 with
          | err => rw [eb] at s; exact s.elim
          | exc _ _ => rw [eb] at s; exact s.elim
          | ok q h2 =>
            obtain ⟨fl, ρ2⟩ := q
            rw [eb] at s
            cases fl with
            | next => obtain ⟨m', lt, i'⟩ := s; exact ih m' _ _ (by omega) i'
            | cont => obtain ⟨m', lt, i'⟩ := s; exact ih m' _ _ (by omega) i'
            | brk => exact ⟨_, rfl, s⟩
            | ret w => exact ⟨_, rfl, s⟩
            | rz e' => exact ⟨_, rfl, s⟩
  obtain ⟨r, e, w⟩ := this (m + 1) m ρ h (by omega) i0
  rw [whl_turn c body ρ h r _ e]; exact w

/-! calls -/
def fin (h : Hw) (Q : W → Hw → Prop) (E : Ex → Hw → Prop) : Fl → En → Hw → Prop
  | .ret w, _, h' => wp (tidy h w h') Q E
  | .next, _, h' => wp (tidy h .non h') Q E
  | .rz e, _, h' => E e h'
  | _, _, _ => False
theorem fin_ret {h : Hw} {Q : W → Hw → Prop} {E : Ex → Hw → Prop} {w : W} {ρ : En} {h' : Hw} : fin h Q E (.ret w) ρ h' = wp (tidy h w h') Q E := rfl
theorem fin_next {h : Hw} {Q : W → Hw → Prop} {E : Ex → Hw → Prop} {ρ : En} {h' : Hw} : fin h Q E .next ρ h' = wp (tidy h .non h') Q E := rfl
theorem fin_rz {h : Hw} {Q : W → Hw → Prop} {E : Ex → Hw → Prop} {e : Ex} {ρ : En} {h' : Hw} : fin h Q E (.rz e) ρ h' = E e h' := rfl
theorem wp_fn {ds : List Df} {k f : Nat} {vs : List W} {h : Hw} {Q : W → Hw → Prop} {E : Ex → Hw → Prop} {d : Df} (e : ds[f]? = some d) (hl : vs.length = d.np)
    (w : wps (evSs (PhiN ds k) d.body (vs.map some ++ List.replicate (d.ns - d.np) none) h) (fin h Q E)) : wp (PhiN ds (k + 1) f vs h) Q E := by
  have e1 : PhiN ds (k + 1) f vs h = runDf (PhiN ds k) d vs h := PhiN_s e
  rw [e1]
  unfold runDf
  rw [if_pos hl]
  cases er : evSs (PhiN ds k) d.body (vs.map some ++ List.replicate (d.ns - d.np) none) h with
  | err => rw [er] at w; exact w.elim
  | exc _ _ => rw [er] at w; exact w.elim
  | ok q h' =>
    obtain ⟨fl, ρ⟩ := q
    rw [er] at w
    cases fl with
    | next => exact w
    | brk => exact w.elim
    | cont => exact w.elim
    | ret v => exact w
    | rz x => exact w

/-! what is forgotten behind a call -/
structure Old (h g : Hw) : Prop where
  len : g.length = h.length
  ok : ∀ i o, i < h.length → g[i]? = some o → h[i]? = some o ∨ o.blw h.length
theorem Old.refl (h : Hw) : Old h h := ⟨rfl, fun i o _ e => .inl e⟩
theorem Old.set {h g : Hw} {p : Nat} {xs : List W} (o : Old h g) (b : W.blws h.length xs) : Old h (g.set p (.lst xs)) := by
  refine ⟨by rw [List.length_set]; exact o.len, fun i u hi e => ?_⟩
  by_cases c : p = i
  · subst c
    rw [List.getElem?_set_self (by rw [o.len]; exact hi)] at e
    cases e; exact .inr b
  · rw [List.getElem?_set_ne c] at e
    exact o.ok i u hi e
theorem Old.app {h g : Hw} (o : Old h g) (t : Hw) : OldOk h (g ++ t) := by
  refine ⟨by rw [List.length_append, o.len]; omega, fun i u hi e => ?_⟩
  rw [List.getElem?_append_left (by rw [o.len]; exact hi)] at e
  exact o.ok i u hi e
theorem tidy_app {h g : Hw} (o : Old h g) {w : W} (t : Hw) (b : w.blw h.length) : tidy h w (g ++ t) = .ok w g := by
  unfold tidy
  rw [if_pos (o.app t), if_pos b, ← o.len, List.take_left]
theorem tidy_nil {h : Hw} {w : W} (b : w.blw 0) : tidy [] w h = .ok w [] := by
  unfold tidy
  rw [if_pos ⟨Nat.zero_le _, fun i o hi => absurd hi (Nat.not_lt_zero _)⟩]
  exact if_pos b
theorem wp_law {r : Res W} (w : wp r (fun a _ => a = .bl true) noE) : ∃ h', r = .ok (.bl true) h' := by
  cases r with
  | ok a h => obtain rfl := w; exact ⟨h, rfl⟩
  | exc e h => exact w.elim
  | err => exact w.elim
theorem wo_pick (cs : List Int) (P : Int → Prop) {r : Int} {Q : W → Prop} (h : 0 ≤ r ∧ r < cs.length) (hp : ∀ c ∈ cs, P c) (K : ∀ c, P c → Q (.int c)) : wo ((cs.map W.int)[r.toNat]?) Q := by
  have hr : r.toNat < cs.length := by omega
  rw [List.getElem?_map, List.getElem?_eq_getElem hr, Option.map_some, wo_some]
  exact K _ (hp _ (List.getElem_mem hr))
theorem tidy_one {h g : Hw} (o : Old h g) {w : W} (b : w.blw h.length) : tidy h w g = .ok w g := by
  have := tidy_app o [] b
  rwa [List.append_nil] at this
theorem tidy_new {h g : Hw} (o : Old h g) {t : Hw} {k : Nat} {xs : List W} (e : lstAt t k = some xs) (b : W.blws h.length xs) : tidy h (.ref (h.length + k)) (g ++ t) = .ok (.ref h.length) (g ++ [.lst xs]) := by
  unfold tidy
  rw [if_pos (o.app t), if_neg (by unfold W.blw; omega)]
  have e2 : (g ++ t)[h.length + k]? = some (.lst xs) := by
    rw [List.getElem?_append_right (by rw [o.len]; omega), o.len, Nat.add_sub_cancel_left]
    exact lstAt_get e
  simp only [e2]
  rw [if_pos (show (O.lst xs).blw h.length from b), ← o.len, List.take_left]
theorem blw_int {n : Nat} {i : Int} : (W.int i).blw n := by unfold W.blw; trivial
theorem blw_bl {n : Nat} {i : Bool} : (W.bl i).blw n := by unfold W.blw; trivial
theorem blw_non {n : Nat} : W.non.blw n := by unfold W.blw; trivial
theorem blw_str {n : Nat} {x : Str} : (W.str x).blw n := by unfold W.blw; trivial
theorem blw_ref {n k : Nat} (e : k < n) : (W.ref k).blw n := by unfold W.blw; exact e
theorem blw_tup {n : Nat} {xs : List W} (e : W.blws n xs) : (W.tup xs).blw n := by unfold W.blw; exact e
theorem blws_nil {n : Nat} : W.blws n [] := by unfold W.blws; trivial
theorem blws_cons {n : Nat} {x : W} {xs : List W} (e : x.blw n) (f : W.blws n xs) : W.blws n (x :: xs) := by unfold W.blws; exact ⟨e, f⟩
theorem blws_all {n : Nat} {xs : List W} (e : ∀ x ∈ xs, x.blw n) : W.blws n xs := by
  induction xs with
  | nil => exact blws_nil
  | cons x xs ih => exact blws_cons (e x (by simp)) (ih fun y hy => e y (by simp [hy]))
theorem blws_mem {n : Nat} {xs : List W} (e : W.blws n xs) : ∀ x ∈ xs, x.blw n := by
  induction xs with
  | nil => intro x hx; simp at hx
  | cons y xs ih =>
    unfold W.blws at e
    intro x hx
    rcases List.mem_cons.mp hx with z | z
    · rw [z]; exact e.1
    · exact ih e.2 x z
theorem blws_ints {n : Nat} (ns : List Int) : W.blws n (ns.map W.int) := blws_all fun x hx => by
  obtain ⟨i, _, rfl⟩ := List.mem_map.mp hx; exact blw_int
theorem blws_app {n : Nat} {xs ys : List W} (e : W.blws n xs) (f : W.blws n ys) : W.blws n (xs ++ ys) := blws_all fun x hx => by
  rcases List.mem_append.mp hx with z | z
  · exact blws_mem e x z
  · exact blws_mem f x z
end Ev

set_option Elab.async false
set_option linter.all false
set_option maxRecDepth 100000
set_option maxHeartbeats 1000000
/-! Nf: steps of a curve, the one normal form. -/
namespace Ev
open PySem
/-! == of whole numbers in tuples and lists -/
theorem toDs_ints {h : Hw} : ∀ a : List Int, W.toDs h (a.map W.int) = some (a.map PyData.int)
  | [] => rfl
  | i :: a => by
    rw [List.map_cons, W.toDs, toDs_ints a, W.toD]; rfl
theorem eqvAll_ints : ∀ a b : List Int, PyData.eqvAll (a.map PyData.int) (b.map PyData.int) = decide (a = b)
  | [], [] => by simp [PyData.eqvAll]
  | [], _ :: _ => by simp [PyData.eqvAll]
  | _ :: _, [] => by simp [PyData.eqvAll]
  | i :: a, j :: b => by
    rw [List.map_cons, List.map_cons, PyData.eqvAll, eqv_int, eqvAll_ints a b]
    simp
theorem depth_ints : ∀ a : List Int, PyData.depthAll (a.map PyData.int) ≤ 1
  | [] => by simp [PyData.depthAll]
  | i :: a => by
    have := depth_ints a
    simp only [List.map_cons, PyData.depthAll, PyData.depth]
    omega
theorem eqW_tints {h : Hw} {a b : List Int} : eqW (.tup (a.map W.int)) (.tup (b.map W.int)) h = some (decide (a = b)) := by
  have e : ∀ a : List Int, W.toD1 h (.tup (a.map W.int)) = some (.tuple (a.map PyData.int)) := fun a => by
    show W.toD h _ = _
    rw [W.toD, toDs_ints]; rfl
  unfold eqW
  rw [e, e]
  have d1 := depth_ints a
  have d2 := depth_ints b
  have hd : (PyData.tuple (a.map PyData.int)).depth ≤ 64 ∧ (PyData.tuple (b.map PyData.int)).depth ≤ 64 := by
    simp only [PyData.depth]; omega
  refine (if_pos hd).trans ?_
  rw [PyData.eqv, eqvAll_ints]
theorem toD1_lst {h : Hw} {p : Nat} {a : List Int} (e : lstAt h p = some (a.map W.int)) : W.toD1 h (.ref p) = some (.list (a.map PyData.int)) := by
  show (match h[p]? with
    | some (.lst xs) => (W.toDs h xs).map PyData.list
    | _ => none) = _
  rw [lstAt_get e]
  show (W.toDs h _).map _ = _
  rw [toDs_ints]; rfl
theorem eqW_lints {h : Hw} {p q : Nat} {a b : List Int} (e1 : lstAt h p = some (a.map W.int)) (e2 : lstAt h q = some (b.map W.int)) : eqW (.ref p) (.ref q) h = some (decide (a = b)) := by
  unfold eqW
  rw [toD1_lst e1, toD1_lst e2]
  have d1 := depth_ints a
  have d2 := depth_ints b
  have hd : (PyData.list (a.map PyData.int)).depth ≤ 64 ∧ (PyData.list (b.map PyData.int)).depth ≤ 64 := by
    simp only [PyData.depth]; omega
  refine (if_pos hd).trans ?_
  rw [PyData.eqv, eqvAll_ints]
/-! slices -/
theorem cut_drop {xs : List W} {k : Int} (h : 0 ≤ k) : cut xs (some k) none = xs.drop k.toNat := by
  have e1 : sIx xs.length 0 (some k) = min k.toNat xs.length := if_neg (by omega)
  unfold cut
  rw [e1]
  show List.take (xs.length - min k.toNat xs.length) _ = _
  by_cases c : k.toNat ≤ xs.length
  · rw [Nat.min_eq_left c, List.take_of_length_le (by simp)]
  · rw [Nat.min_eq_right (by omega), List.drop_eq_nil_of_le (by omega), List.drop_eq_nil_of_le (by omega)]; simp
theorem cut_take {xs : List W} {k : Int} (h : 0 ≤ k) : cut xs none (some k) = xs.take k.toNat := by
  have e1 : sIx xs.length xs.length (some k) = min k.toNat xs.length := if_neg (by omega)
  unfold cut
  rw [e1]
  show List.take (min k.toNat xs.length - 0) (List.drop 0 xs) = _
  rw [Nat.sub_zero, List.drop_zero]
  by_cases c : k.toNat ≤ xs.length
  · rw [Nat.min_eq_left c]
  · rw [Nat.min_eq_right (by omega), List.take_of_length_le (by omega), List.take_of_length_le (by omega)]
theorem cut_last {xs : List W} : cut xs (some (-1)) none = xs.drop (xs.length - 1) := by
  unfold cut
  have e1 : sIx xs.length 0 (some (-1)) = xs.length - 1 := by
    show (if (-1 : Int) < 0 then ((-1 : Int) + xs.length).toNat else min (-1 : Int).toNat xs.length) = _
    rw [if_pos (by decide)]; omega
  rw [e1]
  show List.take (xs.length - (xs.length - 1)) _ = _
  rw [List.take_of_length_le (by simp)]
theorem cut_init {xs : List W} : cut xs none (some (-1)) = xs.dropLast := by
  unfold cut
  have e1 : sIx xs.length xs.length (some (-1)) = xs.length - 1 := by
    show (if (-1 : Int) < 0 then ((-1 : Int) + xs.length).toNat else min (-1 : Int).toNat xs.length) = _
    rw [if_pos (by decide)]; omega
  rw [e1]
  show List.take (xs.length - 1 - 0) (List.drop 0 xs) = _
  rw [Nat.sub_zero, List.drop_zero, List.dropLast_eq_take]
theorem take_map (ns : List Int) (k : Nat) : (ns.map W.int).take k = (ns.take k).map W.int := (List.map_take).symm
theorem drop_map (ns : List Int) (k : Nat) : (ns.map W.int).drop k = (ns.drop k).map W.int := (List.map_drop).symm
/-! steps -/
def stp (hd tn : List Int) (k : Nat) : Int := if k < hd.length then (hd[k]?).getD 0 else (tn[(k - hd.length) % tn.length]?).getD 0
theorem stp_rot (hd r : List Int) (t : Int) (k : Nat) : stp (hd ++ [t]) (r ++ [t]) k = stp hd (t :: r) k := by
  unfold stp
  simp only [List.length_append, List.length_cons, List.length_nil, Nat.zero_add]
  by_cases c1 : k < hd.length
  · rw [if_pos (by omega), if_pos c1, List.getElem?_append_left c1]
  · rw [if_neg c1]
    by_cases c2 : k < hd.length + 1
    · rw [if_pos c2]
      have : k = hd.length := by omega
      subst this
      simp
    · rw [if_neg c2]
      obtain ⟨j, rfl⟩ : ∃ j, k = hd.length + 1 + j := ⟨k - (hd.length + 1), by omega⟩
      rw [show hd.length + 1 + j - (hd.length + 1) = j by omega, show hd.length + 1 + j - hd.length = j + 1 by omega]
      have hL : 0 < r.length + 1 := by omega
      have hm := Nat.mod_lt j hL
      by_cases c3 : j % (r.length + 1) = r.length
      · have e : (j + 1) % (r.length + 1) = 0 := by rw [Nat.add_mod, c3]; by_cases z : r.length = 0 <;> simp [z, Nat.mod_eq_of_lt, Nat.mod_one]
        rw [c3, e]
        simp
      · have e : (j + 1) % (r.length + 1) = j % (r.length + 1) + 1 := by
          rw [Nat.add_mod]
          by_cases z : r.length = 0
          · omega
          · rw [Nat.mod_eq_of_lt (show 1 < r.length + 1 by omega), Nat.mod_eq_of_lt (by omega)]
        rw [e, List.getElem?_append_left (by omega), List.getElem?_cons_succ]
theorem rep_get {α : Type} (tn : List α) : ∀ (m i : Nat), i < m * tn.length → (List.replicate m tn).flatten[i]? = tn[i % tn.length]? := by
  intro m
  induction m with
  | zero => intro i h; omega
  | succ m ih =>
    intro i h
    rw [List.replicate_succ, List.flatten_cons]
    by_cases c : i < tn.length
    · rw [List.getElem?_append_left c, Nat.mod_eq_of_lt c]
    · rw [List.getElem?_append_right (by omega), ih (i - tn.length) (by rw [Nat.add_mul] at h; omega)]
      congr 1
      rw [Nat.mod_eq_sub_mod (show i ≥ tn.length by omega)]
theorem rep_len {α : Type} (tn : List α) (m : Nat) : (List.replicate m tn).flatten.length = m * tn.length := by
  induction m with
  | zero => simp
  | succ m ih => rw [List.replicate_succ, List.flatten_cons, List.length_append, ih, Nat.add_mul]; omega
theorem stp_rep (hd tn : List Int) (m k : Nat) (hm : 0 < m) (ht : 0 < tn.length) : stp hd (List.replicate m tn).flatten k = stp hd tn k := by
  unfold stp
  by_cases c : k < hd.length
  · rw [if_pos c, if_pos c]
  · rw [if_neg c, if_neg c, rep_len, rep_get tn m _ (Nat.mod_lt _ (Nat.mul_pos hm ht)), Nat.mod_mul_left_mod]
theorem rep_map (tn : List Int) (m : Nat) : (List.replicate m (tn.map W.int)).flatten = (List.replicate m tn).flatten.map W.int := by
  induction m with
  | zero => rfl
  | succ m ih => rw [List.replicate_succ, List.replicate_succ, List.flatten_cons, List.flatten_cons, ih, List.map_append]
/-! periods -/
def Per (u : Nat → Int) (d n : Nat) : Prop := ∀ k, n ≤ k → u (k + d) = u k
theorem Per.mono {u : Nat → Int} {d n m : Nat} (h : Per u d n) (l : n ≤ m) : Per u d m := fun k hk => h k (by omega)
theorem Per.mul {u : Nat → Int} {d n : Nat} (h : Per u d n) : ∀ m, Per u (m * d) n
  | 0 => fun k _ => by rw [Nat.zero_mul, Nat.add_zero]
  | m + 1 => fun k hk => by rw [Nat.add_mul, Nat.one_mul, ← Nat.add_assoc, h (k + m * d) (by omega), h.mul m k hk]
theorem Per.sub {u : Nat → Int} {a b n : Nat} (ha : Per u a n) (hb : Per u b n) (l : b ≤ a) : Per u (a - b) n := fun k hk => by
  have h1 := hb (k + (a - b)) (by omega)
  rw [show k + (a - b) + b = k + a by omega, ha k hk] at h1
  exact h1.symm
theorem Per.mod {u : Nat → Int} {a b n : Nat} (ha : Per u a n) (hb : Per u b n) : Per u (a % b) n := by
  have h := Nat.div_add_mod a b
  have l : a / b * b ≤ a := by rw [Nat.mul_comm]; omega
  have := ha.sub (hb.mul (a / b)) l
  rwa [show a - a / b * b = a % b by rw [Nat.mul_comm]; omega] at this
theorem Per.gcd {u : Nat → Int} {n : Nat} : ∀ (a b : Nat), Per u a n → Per u b n → Per u (a.gcd b) n := by
  intro a b
  induction a, b using Nat.gcd.induction with
  | H0 b => intro _ hb; rw [Nat.gcd_zero_left]; exact hb
  | H1 a b ha ih =>
    intro h1 h2
    rw [Nat.gcd_rec]
    exact ih (h2.mod h1) h1
theorem per_stp (hd tn : List Int) : Per (stp hd tn) tn.length hd.length := fun k hk => by
  unfold stp
  rw [if_neg (by omega), if_neg (by omega), show k + tn.length - hd.length = k - hd.length + tn.length by omega, Nat.add_mod_right]
theorem stp_hd {hd tn : List Int} {k : Nat} (h : k < hd.length) : stp hd tn k = hd[k] := by
  unfold stp; rw [if_pos h, List.getElem?_eq_getElem h]; rfl
theorem stp_tn {hd tn : List Int} {k : Nat} (h : k < tn.length) : stp hd tn (hd.length + k) = tn[k] := by
  unfold stp; rw [if_neg (by omega), Nat.add_sub_cancel_left, Nat.mod_eq_of_lt h, List.getElem?_eq_getElem h]; rfl
/-- what has a period from n on and another from later on has it from n on -/
theorem Per.down {u : Nat → Int} {d L n m : Nat} (hL : 0 < L) (h : Per u L n) (g : Per u d m) : Per u d n := fun k hk => by
  have a := h.mul m
  have e : m ≤ m * L := Nat.le_mul_of_pos_right m hL
  rw [← a (k + d) (by omega), ← a k hk, show k + d + m * L = k + m * L + d by omega]
  exact g _ (by omega)
/-- the normal form of a curve with these steps -/
structure IsNf (u : Nat → Int) (hd tn : List Int) : Prop where
  pos : 0 < tn.length
  eq : ∀ k, stp hd tn k = u k
  min : ∀ d n, 0 < d → Per u d n → tn.length ≤ d
  pre : ∀ n, Per u tn.length n → hd.length ≤ n
theorem IsNf.unique {u : Nat → Int} {hd tn hd' tn' : List Int} (a : IsNf u hd tn) (b : IsNf u hd' tn') : hd = hd' ∧ tn = tn' := by
  have pa : Per u tn.length hd.length := fun k hk => by rw [← a.eq, ← a.eq]; exact per_stp hd tn k hk
  have pb : Per u tn'.length hd'.length := fun k hk => by rw [← b.eq, ← b.eq]; exact per_stp hd' tn' k hk
  have l1 : tn.length = tn'.length := Nat.le_antisymm (a.min _ _ b.pos pb) (b.min _ _ a.pos pa)
  have l2 : hd.length = hd'.length := Nat.le_antisymm (a.pre _ (l1 ▸ pb)) (b.pre _ (l1 ▸ pa))
  refine ⟨List.ext_getElem l2 fun i h1 h2 => ?_, List.ext_getElem l1 fun i h1 h2 => ?_⟩
  · have x := a.eq i
    have y := b.eq i
    rw [stp_hd h1] at x
    rw [stp_hd h2] at y
    rw [x, y]
  · have x := a.eq (hd.length + i)
    have y := b.eq (hd'.length + i)
    rw [stp_tn h1] at x
    rw [stp_tn h2] at y
    rw [x, y, l2]
theorem isNf_of {u : Nat → Int} {hd tn : List Int} (pos : 0 < tn.length) (eq : ∀ k, stp hd tn k = u k) (prim : ∀ d n, 0 < d → d ∣ tn.length → Per u d n → d = tn.length) (last : hd = [] ∨ hd.getLast? ≠ tn.getLast?) : IsNf u hd tn := by
  have pa : Per u tn.length hd.length := fun k hk => by rw [← eq, ← eq]; exact per_stp hd tn k hk
  refine ⟨pos, eq, fun d n hd0 hp => ?_, fun n hp => ?_⟩
  · have g := Per.gcd d tn.length (hp.mono (Nat.le_max_left n hd.length)) (pa.mono (Nat.le_max_right n hd.length))
    have e := prim _ _ (Nat.gcd_pos_of_pos_left _ hd0) (Nat.gcd_dvd_right d tn.length) g
    have d1 : tn.length ∣ d := by rw [← e]; exact Nat.gcd_dvd_left d tn.length
    exact Nat.le_of_dvd hd0 d1
  · rcases last with rfl | l
    · exact Nat.zero_le _
    · refine Nat.le_of_not_lt fun c => l ?_
      have h1 := hp (hd.length - 1) (by omega)
      rw [← eq, ← eq, stp_hd (hd := hd) (k := hd.length - 1) (by omega), show hd.length - 1 + tn.length = hd.length + (tn.length - 1) by omega, stp_tn (hd := hd) (tn := tn) (k := tn.length - 1) (by omega)] at h1
      rw [List.getLast?_eq_getElem?, List.getLast?_eq_getElem?, List.getElem?_eq_getElem (by omega), List.getElem?_eq_getElem (by omega), h1]
theorem isNf_self {u : Nat → Int} {hd tn : List Int} (a : IsNf u hd tn) : IsNf (stp hd tn) hd tn := by
  have : stp hd tn = u := funext a.eq
  rw [this]; exact a
/-! the two looks for a period -/
theorem per_of_ix {hd tn : List Int} {d : Nat} (hL : 0 < tn.length) (hd0 : 0 < d) (dv : d ∣ tn.length) (h : ∀ i, i < tn.length → tn[i]? = tn[i % d]?) : Per (stp hd tn) d hd.length := fun k hk => by
  unfold stp
  rw [if_neg (by omega), if_neg (by omega), show k + d - hd.length = k - hd.length + d by omega]
  have m1 := Nat.mod_lt (k - hd.length + d) hL
  have m2 := Nat.mod_lt (k - hd.length) hL
  rw [h _ m1, h _ m2, Nat.mod_mod_of_dvd _ dv, Nat.mod_mod_of_dvd _ dv, Nat.add_mod_right]
theorem ix_of_per {hd tn : List Int} {d : Nat} (hd0 : 0 < d) (hd1 : d ≤ tn.length) (h : Per (stp hd tn) d hd.length) (i : Nat) (hi : i < tn.length) : tn[i]? = tn[i % d]? := by
  have e := h.mul (i / d) (hd.length + i % d) (by omega)
  have l := Nat.mod_lt i hd0
  rw [show hd.length + i % d + i / d * d = hd.length + i by have := Nat.div_add_mod i d; rw [Nat.mul_comm] at this; omega, stp_tn hi, stp_tn (show i % d < tn.length by omega)] at e
  rw [List.getElem?_eq_getElem hi, List.getElem?_eq_getElem (show i % d < tn.length by omega), e]
theorem perA {hd tn : List Int} {d : Nat} (hL : 0 < tn.length) (hd0 : 0 < d) (dv : d ∣ tn.length) : (List.replicate (tn.length / d) (tn.take d)).flatten = tn ↔ Per (stp hd tn) d hd.length := by
  have hd1 := Nat.le_of_dvd hL dv
  have lt : (tn.take d).length = d := by rw [List.length_take]; exact Nat.min_eq_left hd1
  have key : ∀ i, i < tn.length → (List.replicate (tn.length / d) (tn.take d)).flatten[i]? = tn[i % d]? := fun i hi => by
    rw [rep_get _ _ _ (by rw [lt, Nat.div_mul_cancel dv]; exact hi), lt, List.getElem?_take_of_lt (Nat.mod_lt _ hd0)]
  constructor
  · intro e
    refine per_of_ix hL hd0 dv fun i hi => ?_
    rw [← key i hi, e]
  · intro p
    refine List.ext_getElem? fun i => ?_
    by_cases hi : i < tn.length
    · rw [key i hi, ix_of_per hd0 hd1 p i hi]
    · rw [List.getElem?_eq_none (by rw [rep_len, lt, Nat.div_mul_cancel dv]; omega), List.getElem?_eq_none (by omega)]
theorem perB {hd tn : List Int} {d : Nat} (hL : 0 < tn.length) (hd0 : 0 < d) (dv : d ∣ tn.length) : tn.drop d = tn.take (tn.length - d) ↔ Per (stp hd tn) d hd.length := by
  have hd1 := Nat.le_of_dvd hL dv
  constructor
  · intro e
    have st : ∀ i, i + d < tn.length → tn[i + d]? = tn[i]? := fun i hi => by
      have z := congrArg (fun l => l[i]?) e
      simp only [List.getElem?_drop] at z
      rw [List.getElem?_take_of_lt (by omega), Nat.add_comm] at z
      exact z
    refine per_of_ix hL hd0 dv fun i => ?_
    induction i using Nat.strongRecOn with
    | ind i ih =>
      intro hi
      by_cases c : i < d
      · rw [Nat.mod_eq_of_lt c]
      · have z := st (i - d) (by omega)
        rw [show i - d + d = i by omega] at z
        rw [z, ih (i - d) (by omega) (by omega), ← Nat.mod_eq_sub_mod (show i ≥ d by omega)]
  · intro p
    refine List.ext_getElem? fun i => ?_
    rw [List.getElem?_drop]
    by_cases c : i + d < tn.length
    · rw [List.getElem?_take_of_lt (by omega), Nat.add_comm d i, ix_of_per hd0 hd1 p (i + d) c, ix_of_per hd0 hd1 p i (by omega), Nat.add_mod_right]
    · rw [List.getElem?_eq_none (by omega), List.getElem?_eq_none (by rw [List.length_take]; omega)]
theorem stp_take {hd tn : List Int} {d : Nat} (hL : 0 < tn.length) (hd0 : 0 < d) (dv : d ∣ tn.length) (p : Per (stp hd tn) d hd.length) (k : Nat) : stp hd (tn.take d) k = stp hd tn k := by
  have hd1 := Nat.le_of_dvd hL dv
  have lt : (tn.take d).length = d := by rw [List.length_take]; exact Nat.min_eq_left hd1
  unfold stp
  by_cases c : k < hd.length
  · rw [if_pos c, if_pos c]
  · rw [if_neg c, if_neg c, lt, List.getElem?_take_of_lt (Nat.mod_lt _ hd0), ix_of_per hd0 hd1 p _ (Nat.mod_lt _ hL), Nat.mod_mod_of_dvd _ dv]
/-- the least period found by trying -/
structure Lp (u : Nat → Int) (H L size : Nat) : Prop where
  pos : 0 < size
  dv : size ∣ L
  per : Per u size H
  low : ∀ d, 0 < d → d < size → d ∣ L → ¬ Per u d H
theorem Lp.prim {u : Nat → Int} {H L size : Nat} (a : Lp u H L size) (hL : 0 < L) (pL : Per u L H) : ∀ d n, 0 < d → d ∣ size → Per u d n → d = size := fun d n h0 dv p => by
  have l := Nat.le_of_dvd a.pos dv
  rcases Nat.lt_or_ge d size with c | c
  · exact absurd (Per.down hL pL p) (a.low d h0 c (Nat.dvd_trans dv a.dv))
  · omega
/-- the period turned m places to the right -/
def rot (p : List Int) (m : Nat) : List Int := p.drop (p.length - m) ++ p.take (p.length - m)
theorem rot_len {p : List Int} {m : Nat} : (rot p m).length = p.length := by
  unfold rot; rw [List.length_append, List.length_drop, List.length_take]; omega
theorem rot_zero {p : List Int} : rot p 0 = p := by unfold rot; simp
theorem rot_full {p : List Int} : rot p p.length = p := by unfold rot; simp
theorem rot_split {p : List Int} {m : Nat} (h : m < p.length) : rot p m = (p.drop (p.length - m) ++ p.take (p.length - m - 1)) ++ [p[p.length - m - 1]] ∧ rot p (m + 1) = p[p.length - m - 1] :: (p.drop (p.length - m) ++ p.take (p.length - m - 1)) := by
  have e1 : p.take (p.length - m) = p.take (p.length - m - 1) ++ [p[p.length - m - 1]] := by
    have := List.take_append_getElem (l := p) (i := p.length - m - 1) (by omega)
    rw [this, show p.length - m - 1 + 1 = p.length - m by omega]
  have e2 : p.drop (p.length - (m + 1)) = p[p.length - m - 1] :: p.drop (p.length - m) := by
    have := List.drop_eq_getElem_cons (l := p) (i := p.length - m - 1) (by omega)
    rw [show p.length - m - 1 + 1 = p.length - m by omega] at this
    rw [show p.length - (m + 1) = p.length - m - 1 by omega, this]
  unfold rot
  constructor
  · rw [e1, List.append_assoc]
  · rw [e2, show p.length - (m + 1) = p.length - m - 1 by omega]; rfl
theorem rot_mod {p : List Int} {r : Nat} (h : 0 < p.length) : rot p (r % p.length + 1) = rot p ((r + 1) % p.length) := by
  have l := Nat.mod_lt r h
  by_cases c : r % p.length + 1 = p.length
  · rw [c, rot_full]
    have : (r + 1) % p.length = 0 := by
      rw [Nat.add_mod]
      by_cases z : p.length = 1
      · rw [z, Nat.mod_one]
      · rw [Nat.mod_eq_of_lt (show 1 < p.length by omega), c, Nat.mod_self]
    rw [this, rot_zero]
  · have : (r + 1) % p.length = r % p.length + 1 := by
      rw [Nat.add_mod]
      by_cases z : p.length = 1
      · omega
      · rw [Nat.mod_eq_of_lt (show 1 < p.length by omega), Nat.mod_eq_of_lt (by omega)]
    rw [this]
/-- one more taken off the transient part -/
theorem off_step {hd p : List Int} {r : Nat} (h0 : 0 < p.length) (h1 : r < hd.length) (e : hd[hd.length - 1 - r]? = p[p.length - 1 - r % p.length]?) (k : Nat) :
    stp (hd.take (hd.length - (r + 1))) (rot p ((r + 1) % p.length)) k = stp (hd.take (hd.length - r)) (rot p (r % p.length)) k := by
  have l := Nat.mod_lt r h0
  obtain ⟨e1, e2⟩ := rot_split (p := p) l
  have e3 : hd.take (hd.length - r) = hd.take (hd.length - (r + 1)) ++ [hd[hd.length - 1 - r]] := by
    have := List.take_append_getElem (l := hd) (i := hd.length - 1 - r) (by omega)
    rw [show hd.length - (r + 1) = hd.length - 1 - r by omega, this, show hd.length - 1 - r + 1 = hd.length - r by omega]
  have e4 : hd[hd.length - 1 - r] = p[p.length - r % p.length - 1] := by
    rw [List.getElem?_eq_getElem (by omega), List.getElem?_eq_getElem (by omega)] at e
    have := Option.some.inj e
    rw [this]
    congr 1; omega
  rw [e3, e1, e4, stp_rot, ← rot_mod h0, e2]
theorem off_last {hd p : List Int} {r : Nat} (h0 : 0 < p.length) (h1 : r < hd.length) (e : hd[hd.length - 1 - r]? ≠ p[p.length - 1 - r % p.length]?) : (hd.take (hd.length - r)).getLast? ≠ (rot p (r % p.length)).getLast? := by
  have l := Nat.mod_lt r h0
  obtain ⟨e1, e2⟩ := rot_split (p := p) l
  have e3 : hd.take (hd.length - r) = hd.take (hd.length - (r + 1)) ++ [hd[hd.length - 1 - r]] := by
    have := List.take_append_getElem (l := hd) (i := hd.length - 1 - r) (by omega)
    rw [show hd.length - (r + 1) = hd.length - 1 - r by omega, this, show hd.length - 1 - r + 1 = hd.length - r by omega]
  rw [e3, e1, List.getLast?_append, List.getLast?_append]
  simp only [List.getLast?_singleton, Option.some_or]
  intro z
  apply e
  rw [List.getElem?_eq_getElem (by omega), List.getElem?_eq_getElem (by omega), Option.some.inj z]
  congr 2; omega
/-- what a pure call leaves -/
structure Pf (h g : Hw) : Prop where
  len : h.length ≤ g.length
  same : ∀ i, i < h.length → g[i]? = h[i]?
theorem Pf.refl (h : Hw) : Pf h h := ⟨Nat.le_refl _, fun _ _ => rfl⟩
theorem Pf.app {h g : Hw} (a : Pf h g) (t : Hw) : Pf h (g ++ t) := ⟨by rw [List.length_append]; have := a.len; omega, fun i hi => by rw [List.getElem?_append_left (by have := a.len; omega)]; exact a.same i hi⟩
theorem Pf.put {h g : Hw} (a : Pf h g) {i : Nat} {o : O} (hi : h.length ≤ i) : Pf h (g.set i o) := ⟨by rw [List.length_set]; exact a.len, fun j hj => by rw [List.getElem?_set_ne (by omega)]; exact a.same j hj⟩
theorem Pf.lst {h g : Hw} (a : Pf h g) {i : Nat} (hi : i < h.length) : lstAt g i = lstAt h i := by unfold lstAt; rw [a.same i hi]
theorem tidy_pf {h g : Hw} {w : W} (a : Pf h g) (b : w.blw h.length) : tidy h w g = .ok w h := by
  unfold tidy
  rw [if_pos ⟨a.len, fun i o hi e => .inl (by rw [← a.same i hi]; exact e)⟩, if_pos b]
  congr 1
  refine List.ext_getElem? fun i => ?_
  by_cases c : i < h.length
  · rw [List.getElem?_take_of_lt c, a.same i c]
  · rw [List.getElem?_eq_none (by rw [List.length_take]; omega), List.getElem?_eq_none (by omega)]
end Ev

set_option Elab.async false
set_option linter.all false
set_option maxRecDepth 100000
/-! Nf2: sums of steps, the values of curves, equal pairs of parts. -/
namespace Ev
open PySem
def psum (u : Nat → Int) : Nat → Int
  | 0 => 0
  | n + 1 => psum u n + u n
theorem psum_congr {u v : Nat → Int} : ∀ (n : Nat), (∀ k, k < n → u k = v k) → psum u n = psum v n
  | 0, _ => rfl
  | n + 1, h => by unfold psum; rw [psum_congr n fun k hk => h k (by omega), h n (by omega)]
theorem psum_add (u : Nat → Int) (a : Nat) : ∀ b, psum u (a + b) = psum u a + psum (fun k => u (a + k)) b
  | 0 => by simp [psum]
  | b + 1 => by
    have e1 : psum u (a + (b + 1)) = psum u (a + b) + u (a + b) := rfl
    have e2 : psum (fun k => u (a + k)) (b + 1) = psum (fun k => u (a + k)) b + u (a + b) := rfl
    rw [e1, e2, psum_add u a b]; omega
theorem take_psum (l : List Int) : ∀ (n : Nat), n ≤ l.length → (l.take n).sum = psum (fun k => (l[k]?).getD 0) n
  | 0, _ => by simp [psum]
  | n + 1, h => by
    unfold psum
    rw [← take_psum l n (by omega), List.take_succ, List.sum_append, List.getElem?_eq_getElem (by omega)]
    simp
/-- the value by the formula -/
def val (i : Int) (hd tn : List Int) (x : Int) : Int := if x ≤ hd.length then i + (hd.take x.toNat).sum else i + hd.sum + (x - hd.length) / tn.length * tn.sum + (tn.take ((x - hd.length) % tn.length).toNat).sum
theorem per_psum (tn : List Int) (r : Nat) (hr : r ≤ tn.length) : ∀ q : Nat, psum (fun k => (tn[k % tn.length]?).getD 0) (q * tn.length + r) = q * tn.sum + (tn.take r).sum := by
  have base : ∀ r, r ≤ tn.length → psum (fun k => (tn[k % tn.length]?).getD 0) r = (tn.take r).sum := fun r hr => by
    rw [take_psum tn r hr]
    exact psum_congr r fun k hk => by rw [Nat.mod_eq_of_lt (by omega)]
  intro q
  induction q with
  | zero => simp; exact base r hr
  | succ q ih =>
    have e : (q + 1) * tn.length + r = tn.length + (q * tn.length + r) := by rw [Nat.add_mul]; omega
    rw [e, psum_add, base tn.length (Nat.le_refl _), List.take_length]
    have : psum (fun k => (fun k => (tn[k % tn.length]?).getD 0) (tn.length + k)) (q * tn.length + r) = psum (fun k => (tn[k % tn.length]?).getD 0) (q * tn.length + r) := psum_congr _ fun k _ => by
      show (tn[(tn.length + k) % tn.length]?).getD 0 = _
      rw [Nat.add_mod_left]
    rw [this, ih, Int.natCast_add, Int.add_mul]
    simp; omega
theorem val_nat (i : Int) (hd tn : List Int) (ht : 0 < tn.length) (n : Nat) : val i hd tn n = i + psum (stp hd tn) n := by
  unfold val
  have hs : ∀ m, m ≤ hd.length → psum (stp hd tn) m = (hd.take m).sum := fun m hm => by
    rw [take_psum hd m hm]
    exact psum_congr m fun k hk => by unfold stp; rw [if_pos (by omega)]
  by_cases c : n ≤ hd.length
  · rw [if_pos (by omega), Int.toNat_natCast, hs n c]
  · rw [if_neg (by omega)]
    obtain ⟨m, rfl⟩ : ∃ m, n = hd.length + m := ⟨n - hd.length, by omega⟩
    rw [psum_add, hs _ (Nat.le_refl _), List.take_length]
    have e1 : psum (fun k => stp hd tn (hd.length + k)) m = psum (fun k => (tn[k % tn.length]?).getD 0) m := psum_congr m fun k _ => by
      unfold stp; rw [if_neg (by omega), Nat.add_sub_cancel_left]
    have e2 : m = m / tn.length * tn.length + m % tn.length := by rw [Nat.mul_comm]; exact (Nat.div_add_mod m tn.length).symm
    have e3 := per_psum tn (m % tn.length) (Nat.le_of_lt (Nat.mod_lt _ ht)) (m / tn.length)
    rw [← e2] at e3
    have e4 : ((hd.length + m : Nat) : Int) - (hd.length : Int) = (m : Int) := by omega
    rw [e1, e3, e4, ← Int.natCast_emod, Int.toNat_natCast, Int.natCast_ediv]
    omega
theorem psum_nn {u : Nat → Int} (h : ∀ k, 0 ≤ u k) : ∀ n, 0 ≤ psum u n
  | 0 => by simp [psum]
  | n + 1 => by unfold psum; have := psum_nn h n; have := h n; omega
theorem psum_mono {u : Nat → Int} (h : ∀ k, 0 ≤ u k) {a b : Nat} (l : a ≤ b) : psum u a ≤ psum u b := by
  obtain ⟨c, rfl⟩ : ∃ c, b = a + c := ⟨b - a, by omega⟩
  rw [psum_add]; have := psum_nn (fun k => h (a + k)) c; omega
/-- the differences of the first values -/
def dif (vs : List Int) (n : Nat) : List Int := (List.range n).map fun k => (vs[k + 1]?).getD 0 - (vs[k]?).getD 0
theorem dif_len {vs : List Int} {n : Nat} : (dif vs n).length = n := by unfold dif; simp
theorem dif_get {vs : List Int} {n k : Nat} (h : k < n) : (dif vs n)[k]? = some ((vs[k + 1]?).getD 0 - (vs[k]?).getD 0) := by
  unfold dif; rw [List.getElem?_map, List.getElem?_range h]; rfl
/-- steps that repeat from a place on are those of the table -/
theorem stp_dif {u : Nat → Int} {d : List Int} {start L : Nat} (hl : d.length = start + L) (h0 : 0 < L) (h : ∀ k, k < start + L → (d[k]?).getD 0 = u k) (p : Per u L start) (k : Nat) : stp (d.take start) (d.drop start) k = u k := by
  unfold stp
  rw [List.length_take, Nat.min_eq_left (by omega), List.length_drop, hl, Nat.add_sub_cancel_left]
  by_cases c : k < start
  · rw [if_pos c, List.getElem?_take_of_lt c]; exact h k (by omega)
  · rw [if_neg c, List.getElem?_drop, h _ (by have := Nat.mod_lt (k - start) h0; omega)]
    have e : k = (k - start) / L * L + (start + (k - start) % L) := by
      have := Nat.div_add_mod (k - start) L
      rw [Nat.mul_comm] at this
      omega
    have := (p.mul ((k - start) / L)) (start + (k - start) % L) (by omega)
    rw [Nat.add_comm, ← e] at this
    exact this.symm
/-- two sequences that repeat alike from a place on are equal when they are so in the beginning -/
theorem per_eq {u v : Nat → Int} {n L : Nat} (h0 : 0 < L) (pu : Per u L n) (pv : Per v L n) (h : ∀ k, k < n + L → u k = v k) (k : Nat) : u k = v k := by
  by_cases c : k < n
  · exact h k (by omega)
  · have e : k = (k - n) / L * L + (n + (k - n) % L) := by
      have := Nat.div_add_mod (k - n) L
      rw [Nat.mul_comm] at this
      omega
    have a := (pu.mul ((k - n) / L)) (n + (k - n) % L) (by omega)
    have b := (pv.mul ((k - n) / L)) (n + (k - n) % L) (by omega)
    rw [Nat.add_comm, ← e] at a b
    rw [a, b]
    exact h _ (by have := Nat.mod_lt (k - n) h0; omega)
/-- a pair of parts -/
def rt (hd tn : List Int) : W := .tup [.tup (hd.map W.int), .tup (tn.map W.int)]
theorem toD1_rt {h : Hw} {a b : List Int} : W.toD1 h (rt a b) = some (.tuple [.tuple (a.map PyData.int), .tuple (b.map PyData.int)]) := by
  show W.toD h _ = _
  unfold rt
  have e : ∀ a : List Int, W.toD h (.tup (a.map W.int)) = some (.tuple (a.map PyData.int)) := fun a => by
    rw [W.toD, toDs_ints]; rfl
  rw [W.toD, W.toDs, e, W.toDs, e, W.toDs]
  rfl
theorem eqW_rt {h : Hw} {a b c d : List Int} : eqW (rt a b) (rt c d) h = some (decide (a = c ∧ b = d)) := by
  unfold eqW
  rw [toD1_rt, toD1_rt]
  have d1 := depth_ints a
  have d2 := depth_ints b
  have d3 := depth_ints c
  have d4 := depth_ints d
  have hd : (PyData.tuple [.tuple (a.map PyData.int), .tuple (b.map PyData.int)]).depth ≤ 64 ∧ (PyData.tuple [.tuple (c.map PyData.int), .tuple (d.map PyData.int)]).depth ≤ 64 := by
    simp only [PyData.depth, PyData.depthAll]; omega
  refine (if_pos hd).trans ?_
  simp only [PyData.eqv, PyData.eqvAll, eqvAll_ints, Bool.and_true, Bool.decide_and]

/-- a comprehension whose elements are told by a function, the heap as before -/
theorem wp_compF {α : Type} (f : α → W) (as : List α) (F : α → W) {g : IG} {gu : Gu} {test : En → Hw → Res Bool} {elt : En → Hw → Res W} {own : List Nat} {ρ : En} {h : Hw} {Q : List W → Hw → Prop} {E : Ex → Hw → Prop} (hg : guOk gu h) (hl : as.length < 16777216)
    (step : ∀ a, a ∈ as → wo (asg g (f a) (wipe ρ own)) fun ρ' => wp (test ρ' h) (fun k h' => br k (wp (elt ρ' h') (fun y g => y = F a ∧ g = h) noE) False) noE)
    (fin : Q (as.map F) h) : wp (compL g gu test elt own ρ (as.map f) h []) Q E := by
  refine wp_comp f as (fun pre g acc => g = h ∧ acc = pre.map F ∧ pre.length ≤ as.length) (fun _ _ _ z => by rw [z.1]; exact hg) ?_ ⟨rfl, rfl, by simp⟩ ?_
  · rintro pre a suf g acc e ⟨rfl, rfl, _⟩
    have s := step a (by rw [e]; simp)
    have hl2 : pre.length < as.length := by rw [e]; simp
    generalize asg _ _ _ = o at s ⊢
    cases o with
    | none => exact s
    | some ρ' =>
      refine wp_mono (show wp _ _ noE from s) (fun k g1 b => ?_) (fun _ _ z => z)
      cases k with
      | false => exact b.elim
      | true => exact wp_mono (show wp _ _ noE from b) (fun y g2 z => ⟨by simp; omega, z.2, by rw [z.1, List.map_append]; rfl, by simp; omega⟩) (fun _ _ z => z)
  · rintro g acc ⟨rfl, rfl, _⟩
    exact fin
theorem wp_compRF {lo : Int} {n : Nat} (F : Nat → W) {g : IG} {test : En → Hw → Res Bool} {elt : En → Hw → Res W} {own : List Nat} {ρ : En} {h : Hw} {Q : List W → Hw → Prop} {E : Ex → Hw → Prop} (hl : n < 16777216)
    (step : ∀ i : Nat, i < n → wo (asg g (.int (lo + (i : Int))) (wipe ρ own)) fun ρ' => wp (test ρ' h) (fun k h' => br k (wp (elt ρ' h') (fun y g => y = F i ∧ g = h) noE) False) noE)
    (fin : Q ((List.range n).map F) h) : wp (compL g [] test elt own ρ (rng lo n) h []) Q E := by
  rw [rng_map]
  exact wp_compF (fun (i : Nat) => W.int (lo + (i : Int))) (List.range n) F guOk_nil (by simpa using hl) (fun a ha => step a (List.mem_range.mp ha)) fin

theorem IsNf.congr {u v : Nat → Int} {hd tn : List Int} (a : IsNf u hd tn) (e : ∀ k, u k = v k) : IsNf v hd tn := by
  have : u = v := funext e
  rw [← this]; exact a
/-- the table of differences of values w -/
theorem dif_eq {vs : List Int} {n : Nat} {u w : Nat → Int} (hv : ∀ k, k ≤ n → vs[k]? = some (w k)) (hu : ∀ k, k < n → w (k + 1) - w k = u k) (k : Nat) (hk : k < n) : ((dif vs n)[k]?).getD 0 = u k := by
  rw [dif_get hk, hv k (by omega), hv (k + 1) (by omega)]
  exact hu k hk

theorem psum_hd {hd tn : List Int} {m : Nat} (hm : m ≤ hd.length) : psum (stp hd tn) m = (hd.take m).sum := by
  rw [take_psum hd m hm]
  exact psum_congr m fun k hk => by unfold stp; rw [if_pos (by omega)]
theorem psum_at {hd tn : List Int} {q r : Nat} (hr : r ≤ tn.length) : psum (stp hd tn) (hd.length + (q * tn.length + r)) = hd.sum + q * tn.sum + (tn.take r).sum := by
  rw [psum_add, psum_hd (Nat.le_refl _), List.take_length]
  have e1 : psum (fun k => stp hd tn (hd.length + k)) (q * tn.length + r) = psum (fun k => (tn[k % tn.length]?).getD 0) (q * tn.length + r) := psum_congr _ fun k _ => by
    unfold stp; rw [if_neg (by omega), Nat.add_sub_cancel_left]
  rw [e1, per_psum tn r hr q]; omega
theorem psum_pre {pre suf tn : List Int} : psum (stp (pre ++ suf) tn) pre.length = pre.sum := by
  rw [psum_hd (by simp), List.take_left']; rfl
theorem psum_mid {hd pre suf : List Int} {q : Nat} : psum (stp hd (pre ++ suf)) (hd.length + (q * (pre ++ suf).length + pre.length)) = hd.sum + q * (pre ++ suf).sum + pre.sum := by
  rw [psum_at (by simp), List.take_left']; rfl
theorem stp_all {P : Int → Prop} {hd tn : List Int} (h0 : 0 < tn.length) (h1 : ∀ x ∈ hd, P x) (h2 : ∀ x ∈ tn, P x) (k : Nat) : P (stp hd tn k) := by
  unfold stp
  by_cases c : k < hd.length
  · rw [if_pos c, List.getElem?_eq_getElem c]; exact h1 _ (List.getElem_mem c)
  · have := Nat.mod_lt (k - hd.length) h0
    rw [if_neg c, List.getElem?_eq_getElem this]; exact h2 _ (List.getElem_mem this)
/-- the least place with a value of at least x -/
structure Least (i : Int) (u : Nat → Int) (x : Int) (n : Nat) : Prop where
  ge : x ≤ i + psum u n
  lt : ∀ m, m < n → i + psum u m < x
theorem Least.zero {i : Int} {u : Nat → Int} {x : Int} (h : x ≤ i) : Least i u x 0 := ⟨by simp [psum]; exact h, fun m hm => by omega⟩
theorem Least.succ {i : Int} {u : Nat → Int} {x : Int} {n : Nat} (hu : ∀ k, 0 ≤ u k) (a : x ≤ i + psum u (n + 1)) (b : i + psum u n < x) : Least i u x (n + 1) := ⟨a, fun m hm => by
  have := psum_mono hu (show m ≤ n by omega)
  omega⟩
theorem Least.iff {i : Int} {u : Nat → Int} {x : Int} {n : Nat} (hu : ∀ k, 0 ≤ u k) (a : Least i u x n) (m : Nat) : n ≤ m ↔ x ≤ i + psum u m := by
  constructor
  · intro l; have := psum_mono hu l; have := a.ge; omega
  · intro l
    refine Nat.le_of_not_lt fun c => ?_
    have := a.lt m c
    omega
theorem Least.unique {i : Int} {u : Nat → Int} {x : Int} {n m : Nat} (a : Least i u x n) (b : Least i u x m) : n = m := by
  rcases Nat.lt_trichotomy n m with c | c | c
  · have := b.lt n c; have := a.ge; omega
  · exact c
  · have := a.lt m c; have := b.ge; omega
/-- the greatest place with a value of at most x -/
structure Most (i : Int) (u : Nat → Int) (x : Int) (n : Nat) : Prop where
  le : i + psum u n ≤ x
  gt : x < i + psum u (n + 1)
theorem Most.least {i : Int} {u : Nat → Int} {x : Int} {n : Nat} (hu : ∀ k, 0 ≤ u k) (a : Most i u x n) : Least i u (x + 1) (n + 1) := Least.succ hu (by have := a.gt; omega) (by have := a.le; omega)
theorem Least.most {i : Int} {u : Nat → Int} {x : Int} {n : Nat} (a : Least i u (x + 1) (n + 1)) : Most i u x n := ⟨by have := a.lt n (by omega); omega, by have := a.ge; omega⟩
theorem quo_bd {a s : Int} (hs : 0 < s) (ha : 0 ≤ a) : ∃ q : Nat, a / s = q ∧ (q : Int) * s ≤ a ∧ a < (q : Int) * s + s := by
  have h0 := Int.ediv_nonneg ha (Int.le_of_lt hs)
  have h1 := Int.emod_add_mul_ediv a s
  have h2 := Int.emod_nonneg a (Int.ne_of_gt hs)
  have h3 := Int.emod_lt_of_pos a hs
  refine ⟨(a / s).toNat, by omega, ?_, ?_⟩
  · rw [Int.toNat_of_nonneg h0, Int.mul_comm]; omega
  · rw [Int.toNat_of_nonneg h0, Int.mul_comm]; omega

/-- a curve -/
def cv (i : Int) (hd tn : List Int) : W := .tup [.int i, .tup (hd.map W.int), .tup (tn.map W.int)]
theorem rt_blw {n : Nat} {hd tn : List Int} : (rt hd tn).blw n := blw_tup (blws_cons (blw_tup (blws_ints _)) (blws_cons (blw_tup (blws_ints _)) blws_nil))
theorem cv_blw {n : Nat} {i : Int} {hd tn : List Int} : (cv i hd tn).blw n := blw_tup (blws_cons blw_int (blws_cons (blw_tup (blws_ints _)) (blws_cons (blw_tup (blws_ints _)) blws_nil)))
theorem seqOf_rt {h : Hw} {hd tn : List Int} : seqOf h (rt hd tn) = some [.tup (hd.map W.int), .tup (tn.map W.int)] := rfl
theorem seqOf_cv {h : Hw} {i : Int} {hd tn : List Int} : seqOf h (cv i hd tn) = some [.int i, .tup (hd.map W.int), .tup (tn.map W.int)] := rfl
theorem isNon_rt {hd tn : List Int} : isNon (rt hd tn) = false := rfl
theorem isNon_cv {i : Int} {hd tn : List Int} : isNon (cv i hd tn) = false := rfl
theorem isTup_rt {hd tn : List Int} : isTup (rt hd tn) = true := rfl
theorem isTup_cv {i : Int} {hd tn : List Int} : isTup (cv i hd tn) = true := rfl
theorem guOf_rt {hd tn : List Int} {xs : List W} : guOf (rt hd tn) xs = [] := rfl
theorem guOf_cv {i : Int} {hd tn : List Int} {xs : List W} : guOf (cv i hd tn) xs = [] := rfl
theorem isTy_rt {hd tn : List Int} {t : Ty} {h : Hw} : isTy (rt hd tn) t h = isTy (.tup []) t h := by cases t <;> rfl
theorem isTy_cv {i : Int} {hd tn : List Int} {t : Ty} {h : Hw} : isTy (cv i hd tn) t h = isTy (.tup []) t h := by cases t <;> rfl
theorem asg_rt {i j : Nat} {hd tn : List Int} {ρ : En} : asg (.tup [.var i, .var j]) (rt hd tn) ρ = some ((ρ.set i (some (.tup (hd.map W.int)))).set j (some (.tup (tn.map W.int)))) := asg_tup2
theorem asg_cv {i j k : Nat} {a : Int} {hd tn : List Int} {ρ : En} : asg (.tup [.var i, .var j, .var k]) (cv a hd tn) ρ = some (((ρ.set i (some (.int a))).set j (some (.tup (hd.map W.int)))).set k (some (.tup (tn.map W.int)))) := asg_tup3
theorem cv_eq {i : Int} {hd tn : List Int} : W.tup [.int i, .tup (hd.map W.int), .tup (tn.map W.int)] = cv i hd tn := rfl
theorem rt_eq {hd tn : List Int} : W.tup [.tup (hd.map W.int), .tup (tn.map W.int)] = rt hd tn := rfl
theorem lst_new {g t : Hw} {n i : Nat} (e : g.length = n) (h : n ≤ i) : lstAt (g ++ t) i = lstAt t (i - n) := by
  unfold lstAt; rw [List.getElem?_append_right (by omega), e]
theorem lst_old {g t : Hw} {i : Nat} (h : i < g.length) : lstAt (g ++ t) i = lstAt g i := lstAt_al h
theorem sum_bd (b : Int) : ∀ (l : List Int), (∀ x ∈ l, 0 ≤ x ∧ x ≤ b) → 0 ≤ l.sum ∧ l.sum ≤ l.length * b := by
  intro l
  induction l with
  | nil => intro _; simp
  | cons y l ih =>
    intro h
    have h1 := h y (by simp)
    have h2 := ih fun x hx => h x (by simp [hx])
    have e : ((y :: l).length : Int) * b = l.length * b + b := by
      rw [List.length_cons, Int.natCast_add, Int.add_mul]; simp
    rw [List.sum_cons]; omega
/-- the first values -/
def vals (i : Int) (u : Nat → Int) (m : Nat) : List Int := (List.range m).map fun n => i + psum u n
theorem vals_len {i : Int} {u : Nat → Int} {m : Nat} : (vals i u m).length = m := by unfold vals; simp
theorem vals_get {i : Int} {u : Nat → Int} {m n : Nat} (h : n < m) : (vals i u m)[n]? = some (i + psum u n) := by
  unfold vals; rw [List.getElem?_map, List.getElem?_range h]; rfl
theorem vals_succ {i : Int} {u : Nat → Int} {m : Nat} : vals i u (m + 1) = vals i u m ++ [i + psum u m] := by
  unfold vals; rw [List.range_succ, List.map_append]; rfl
theorem steps_get {hd tn : List Int} {r j : Nat} (ht : 0 < tn.length) (hj : j < hd.length + r * tn.length) : (hd ++ (List.replicate r tn).flatten)[j]? = some (stp hd tn j) := by
  by_cases c : j < hd.length
  · rw [List.getElem?_append_left c, stp_hd c, List.getElem?_eq_getElem c]
  · rw [List.getElem?_append_right (by omega), rep_get tn r (j - hd.length) (by omega)]
    have := Nat.mod_lt (j - hd.length) ht
    unfold stp
    rw [if_neg c, List.getElem?_eq_getElem this]; rfl
theorem set_last {α : Type} {h : List α} {x y : α} : (h ++ [x]).set h.length y = h ++ [y] := by
  rw [List.set_append_right _ _ (Nat.le_refl _), Nat.sub_self]; rfl
theorem psum_dif {w : Nat → Int} : ∀ n, psum (fun k => w (k + 1) - w k) n = w n - w 0
  | 0 => by simp [psum]
  | n + 1 => by
    have e : psum (fun k => w (k + 1) - w k) (n + 1) = psum (fun k => w (k + 1) - w k) n + (w (n + 1) - w n) := rfl
    rw [e, psum_dif n]; omega
theorem isNf_last {hd tn : List Int} (N : IsNf (stp hd tn) hd tn) (hh : 0 < hd.length) : hd.getLast? ≠ tn.getLast? := by
  intro e
  have hL := N.pos
  rw [List.getLast?_eq_getElem?, List.getLast?_eq_getElem?, List.getElem?_eq_getElem (by omega), List.getElem?_eq_getElem (by omega)] at e
  have e' := Option.some.inj e
  have := N.pre (hd.length - 1) fun k hk => by
    by_cases c : k = hd.length - 1
    · subst c
      rw [stp_hd (hd := hd) (k := hd.length - 1) (by omega), show hd.length - 1 + tn.length = hd.length + (tn.length - 1) by omega, stp_tn (hd := hd) (tn := tn) (k := tn.length - 1) (by omega)]
      exact e'.symm
    · exact per_stp hd tn k (by omega)
  omega
theorem IsNf.all {u : Nat → Int} {hd tn : List Int} {P : Int → Prop} (N : IsNf u hd tn) (h : ∀ k, P (u k)) : (∀ x ∈ hd, P x) ∧ ∀ x ∈ tn, P x := by
  constructor
  · intro x hx
    obtain ⟨i, hi, rfl⟩ := List.mem_iff_getElem.mp hx
    rw [← stp_hd (tn := tn) hi, N.eq]; exact h _
  · intro x hx
    obtain ⟨i, hi, rfl⟩ := List.mem_iff_getElem.mp hx
    rw [← stp_tn (hd := hd) hi, N.eq]; exact h _
theorem sum_zero : ∀ (l : List Int), (∀ x ∈ l, 0 ≤ x) → l.sum ≤ 0 → ∀ x ∈ l, x = 0
  | [], _, _, x, hx => by simp at hx
  | y :: l, h, s, x, hx => by
    have p : ∀ (l : List Int), (∀ x ∈ l, 0 ≤ x) → 0 ≤ l.sum := by
      intro l
      induction l with
      | nil => intro _; simp
      | cons y l ih => intro h; have := h y (by simp); have := ih fun x hx => h x (by simp [hx]); rw [List.sum_cons]; omega
    rw [List.sum_cons] at s
    have h0 := h y (by simp)
    have h1 := p l fun x hx => h x (by simp [hx])
    rcases List.mem_cons.mp hx with rfl | z
    · omega
    · exact sum_zero l (fun x hx => h x (by simp [hx])) (by omega) x z
theorem tr_cv {i : Int} {hd tn : List Int} {h : Hw} : truth (cv i hd tn) h = some true := rfl
theorem tr_rt {hd tn : List Int} {h : Hw} : truth (rt hd tn) h = some true := rfl
theorem rng0 {n : Nat} : rng 0 n = (List.range n).map fun i : Nat => W.int i := by
  rw [rng_map]; simp only [Int.zero_add]
theorem Pf.trans {a b c : Hw} (x : Pf a b) (y : Pf b c) : Pf a c := ⟨Nat.le_trans x.len y.len, fun j hj => (y.same j (Nat.lt_of_lt_of_le hj x.len)).trans (x.same j hj)⟩
theorem nat_int {r : Int} (h : 0 ≤ r) : W.int r = W.int (r.toNat : Int) := by rw [Int.toNat_of_nonneg h]
theorem mem_le_sum : ∀ (l : List Int), (∀ x ∈ l, 0 ≤ x) → ∀ x ∈ l, x ≤ l.sum
  | [], _, x, hx => by simp at hx
  | y :: l, h, x, hx => by
    have p : ∀ (l : List Int), (∀ x ∈ l, 0 ≤ x) → 0 ≤ l.sum := by
      intro l
      induction l with
      | nil => intro _; simp
      | cons y l ih => intro h; have := h y (by simp); have := ih fun x hx => h x (by simp [hx]); rw [List.sum_cons]; omega
    rw [List.sum_cons]
    have h0 := h y (by simp)
    have h1 := p l fun x hx => h x (by simp [hx])
    rcases List.mem_cons.mp hx with rfl | z
    · omega
    · have := mem_le_sum l (fun x hx => h x (by simp [hx])) x z; omega
theorem set_all {P : Int → Prop} {l : List Int} {j : Nat} {v : Int} (h : ∀ x ∈ l, P x) (hv : P v) : ∀ x ∈ l.set j v, P x := fun x hx => by
  rcases List.mem_or_eq_of_mem_set hx with z | z
  · exact h x z
  · rw [z]; exact hv
theorem set_pos {l : List Int} {j : Nat} {v : Int} (h : ∀ x ∈ l, 0 ≤ x) (hv : 0 < v) (hj : j < l.length) : 0 < (l.set j v).sum := by
  have := mem_le_sum (l.set j v) (set_all h (by omega)) v (List.mem_set hj v)
  omega
theorem md_nat {x H L : Nat} (h : H ≤ x) : ((x : Int) - (H : Int)) % (L : Int) = (((x - H) % L : Nat) : Int) := by
  rw [Int.natCast_emod]; congr 1; omega
theorem ints_ge {xs : List Int} {i : Nat} : (xs.map W.int)[i]? = (xs[i]?).map W.int := by rw [List.getElem?_map]
theorem psum_le {u : Nat → Int} {b : Int} (h : ∀ k, u k ≤ b) : ∀ n : Nat, psum u n ≤ n * b
  | 0 => by simp [psum]
  | n + 1 => by
    have e : psum u (n + 1) = psum u n + u n := rfl
    have := psum_le h n
    have := h n
    rw [e, Int.natCast_add, Int.add_mul]; omega
theorem psum_per {hd tn : List Int} {n : Nat} (h0 : 0 < tn.length) (h : hd.length ≤ n) : psum (stp hd tn) (n + tn.length) = psum (stp hd tn) n + tn.sum := by
  have e : n = hd.length + ((n - hd.length) / tn.length * tn.length + (n - hd.length) % tn.length) := by
    have := Nat.div_add_mod (n - hd.length) tn.length
    rw [Nat.mul_comm] at this
    omega
  have hr := Nat.mod_lt (n - hd.length) h0
  have a := psum_at (hd := hd) (tn := tn) (q := (n - hd.length) / tn.length) (r := (n - hd.length) % tn.length) (Nat.le_of_lt hr)
  have b := psum_at (hd := hd) (tn := tn) (q := (n - hd.length) / tn.length + 1) (r := (n - hd.length) % tn.length) (Nat.le_of_lt hr)
  rw [← e] at a
  have e2 : hd.length + (((n - hd.length) / tn.length + 1) * tn.length + (n - hd.length) % tn.length) = n + tn.length := by
    rw [Nat.add_mul]; omega
  rw [e2] at b
  rw [a, b, Int.natCast_add, Int.add_mul]; simp; omega
theorem psum_pers {hd tn : List Int} {n : Nat} (h0 : 0 < tn.length) (h : hd.length ≤ n) : ∀ k : Nat, psum (stp hd tn) (n + k * tn.length) = psum (stp hd tn) n + k * tn.sum
  | 0 => by simp
  | k + 1 => by
    have e : n + (k + 1) * tn.length = (n + k * tn.length) + tn.length := by rw [Nat.add_mul]; omega
    rw [e, psum_per h0 (by omega), psum_pers h0 h k, Int.natCast_add, Int.add_mul]; simp; omega
theorem Most.unique {i : Int} {u : Nat → Int} {x : Int} {n m : Nat} (hu : ∀ k, 0 ≤ u k) (a : Most i u x n) (b : Most i u x m) : n = m := by
  have := (a.least hu).unique (b.least hu)
  omega
theorem Most.iff {i : Int} {u : Nat → Int} {x : Int} {n : Nat} (hu : ∀ k, 0 ≤ u k) (a : Most i u x n) (m : Nat) : m ≤ n ↔ i + psum u m ≤ x := by
  have := (a.least hu).iff hu m
  constructor
  · intro l
    have := psum_mono hu l
    have := a.le
    omega
  · intro l
    refine Nat.le_of_not_lt fun c => ?_
    have := this.mp c
    omega
theorem zip_pair {α β : Type} (f : α → W) (g : β → W) (xs : List α) (ys : List β) : ((xs.map f).zip (ys.map g)).map (fun z => W.tup [z.1, z.2]) = (xs.zip ys).map fun z => W.tup [f z.1, g z.2] := by
  rw [List.zip_map, List.map_map]; rfl
theorem range_zip {α β γ : Type} (xs : List α) (ys : List β) (G : Nat → γ) (H : α × β → γ) (hl : xs.length = ys.length) (h : ∀ (k : Nat) (h1 : k < xs.length) (h2 : k < ys.length), G k = H (xs[k], ys[k])) : (List.range xs.length).map G = (xs.zip ys).map H := by
  refine List.ext_getElem (by simp [hl]) fun k h1 h2 => ?_
  have hk : k < xs.length := by simpa using h1
  simp only [List.getElem_map, List.getElem_range, List.getElem_zip]
  exact h k hk (by omega)
/-- the value as a place -/
def Vn (i : Int) (u : Nat → Int) (x : Nat) : Nat := (i + psum u x).toNat
theorem Vn_int {i : Int} {u : Nat → Int} (hi : 0 ≤ i) (hu : ∀ k, 0 ≤ u k) (x : Nat) : ((Vn i u x : Nat) : Int) = i + psum u x := by
  unfold Vn
  have := psum_nn hu x
  omega
theorem Vn_succ {i : Int} {u : Nat → Int} (hi : 0 ≤ i) (hu : ∀ k, 0 ≤ u k) (x : Nat) : Vn i u (x + 1) = Vn i u x + (u x).toNat := by
  have a := Vn_int hi hu (x + 1)
  have b := Vn_int hi hu x
  have e : psum u (x + 1) = psum u x + u x := rfl
  have := hu x
  omega
/-- the steps of a composition -/
def wst (i1 : Int) (u1 : Nat → Int) (i2 : Int) (u2 : Nat → Int) (n : Nat) : Int := psum u2 (Vn i1 u1 (n + 1)) - psum u2 (Vn i1 u1 n)
theorem wst_bd {i1 : Int} {u1 : Nat → Int} {u2 : Nat → Int} {b1 b2 : Int} {i2 : Int} (hi : 0 ≤ i1) (h1 : ∀ k, 0 ≤ u1 k ∧ u1 k ≤ b1) (h2 : ∀ k, 0 ≤ u2 k ∧ u2 k ≤ b2) (n : Nat) : 0 ≤ wst i1 u1 i2 u2 n ∧ wst i1 u1 i2 u2 n ≤ b1 * b2 := by
  unfold wst
  rw [Vn_succ hi fun k => (h1 k).1, psum_add]
  have a := psum_nn (u := fun k => u2 (Vn i1 u1 n + k)) (fun k => (h2 _).1) (u1 n).toNat
  have b := psum_le (u := fun k => u2 (Vn i1 u1 n + k)) (b := b2) (fun k => (h2 _).2) (u1 n).toNat
  have c := h1 n
  have hb2 : 0 ≤ b2 := Int.le_trans (h2 0).1 (h2 0).2
  have d : (((u1 n).toNat : Nat) : Int) * b2 ≤ b1 * b2 := Int.mul_le_mul_of_nonneg_right (by omega) hb2
  omega
theorem wst_sum {i1 : Int} {u1 : Nat → Int} {i2 : Int} {u2 : Nat → Int} (n : Nat) : psum (wst i1 u1 i2 u2) n = psum u2 (Vn i1 u1 n) - psum u2 (Vn i1 u1 0) :=
  psum_dif (w := fun n => psum u2 (Vn i1 u1 n)) n
theorem wst_per1 {i1 i2 : Int} {h1 t1 h2 t2 : List Int} {s m j : Nat} (hi : 0 ≤ i1) (hu : ∀ k, 0 ≤ stp h1 t1 k) (l1 : 0 < t1.length) (l2 : 0 < t2.length) (hs : h1.length ≤ s) (hv : (h2.length : Int) ≤ i1 + psum (stp h1 t1) s) (hm : (m : Int) * t1.sum = ((j * t2.length : Nat) : Int)) : Per (wst i1 (stp h1 t1) i2 (stp h2 t2)) (m * t1.length) s := by
  have key : ∀ n, s ≤ n → psum (stp h2 t2) (Vn i1 (stp h1 t1) (n + m * t1.length)) = psum (stp h2 t2) (Vn i1 (stp h1 t1) n) + j * t2.sum := fun n hn => by
    have a := Vn_int hi hu (n + m * t1.length)
    have b := Vn_int hi hu n
    have c := psum_pers (hd := h1) (tn := t1) l1 (show h1.length ≤ n by omega) m
    have d := psum_mono hu hn
    have e : Vn i1 (stp h1 t1) (n + m * t1.length) = Vn i1 (stp h1 t1) n + j * t2.length := by omega
    rw [e, psum_pers l2 (by omega)]
  intro n hn
  unfold wst
  have e1 : n + m * t1.length + 1 = (n + 1) + m * t1.length := by omega
  rw [e1, key n hn, key (n + 1) (by omega)]
  omega
theorem wst_per2 {i1 i2 : Int} {h1 t1 : List Int} {u2 : Nat → Int} (l1 : 0 < t1.length) (hx : ∀ x ∈ t1, 0 ≤ x) (hs : t1.sum ≤ 0) : Per (wst i1 (stp h1 t1) i2 u2) 1 h1.length := by
  have z : ∀ k, h1.length ≤ k → stp h1 t1 k = 0 := fun k hk => by
    have := Nat.mod_lt (k - h1.length) l1
    unfold stp
    rw [if_neg (by omega), List.getElem?_eq_getElem this]
    exact sum_zero t1 hx hs _ (List.getElem_mem this)
  have e : ∀ k, h1.length ≤ k → Vn i1 (stp h1 t1) (k + 1) = Vn i1 (stp h1 t1) k := fun k hk => by
    have : psum (stp h1 t1) (k + 1) = psum (stp h1 t1) k + stp h1 t1 k := rfl
    unfold Vn
    rw [this, z k hk, Int.add_zero]
  intro n hn
  unfold wst
  rw [e (n + 1) (by omega), e n hn]
theorem gcd_mul (s L : Nat) (hL : 0 < L) : ∃ j : Nat, (L / s.gcd L) * s = j * L ∧ 0 < s.gcd L ∧ s.gcd L ≤ L ∧ 0 < L / s.gcd L := by
  have g0 : 0 < s.gcd L := Nat.gcd_pos_of_pos_right _ hL
  obtain ⟨a, ha⟩ := Nat.gcd_dvd_left s L
  obtain ⟨b, hb⟩ := Nat.gcd_dvd_right s L
  have gl := Nat.le_of_dvd hL (Nat.gcd_dvd_right s L)
  generalize hg : s.gcd L = g at *
  have e : L / g = b := by rw [hb]; exact Nat.mul_div_cancel_left _ g0
  refine ⟨a, ?_, g0, gl, Nat.div_pos gl g0⟩
  rw [e, ha]
  conv => rhs; rw [hb]
  rw [Nat.mul_comm b, Nat.mul_comm a, Nat.mul_assoc, Nat.mul_assoc, Nat.mul_comm a b]
abbrev Cv := Int × List Int × List Int
def cvW (c : Cv) : W := cv c.1 c.2.1 c.2.2
def stC (c : Cv) : Nat → Int := stp c.2.1 c.2.2
def VC (c : Cv) (x : Nat) : Int := c.1 + psum (stC c) x
theorem VC_succ {c : Cv} {x : Nat} : VC c (x + 1) = VC c x + stC c x := by
  show c.1 + (psum (stC c) x + stC c x) = c.1 + psum (stC c) x + stC c x
  omega
/-- equal values at first are equal values -/
theorem VC_eq {c d : Cv} (hc : 0 < c.2.2.length) (hd : 0 < d.2.2.length) (h : ∀ x, x ≤ max c.2.1.length d.2.1.length + Nat.lcm c.2.2.length d.2.2.length → VC c x = VC d x) : ∀ x, VC c x = VC d x := by
  have h0 : 0 < Nat.lcm c.2.2.length d.2.2.length := Nat.lcm_pos hc hd
  have p1 : Per (stC c) (Nat.lcm c.2.2.length d.2.2.length) (max c.2.1.length d.2.1.length) := by
    obtain ⟨m, e⟩ := Nat.dvd_lcm_left c.2.2.length d.2.2.length
    rw [e, Nat.mul_comm]; exact ((per_stp c.2.1 c.2.2).mul m).mono (Nat.le_max_left _ _)
  have p2 : Per (stC d) (Nat.lcm c.2.2.length d.2.2.length) (max c.2.1.length d.2.1.length) := by
    obtain ⟨m, e⟩ := Nat.dvd_lcm_right c.2.2.length d.2.2.length
    rw [e, Nat.mul_comm]; exact ((per_stp d.2.1 d.2.2).mul m).mono (Nat.le_max_right _ _)
  have es : ∀ k, stC c k = stC d k := per_eq h0 p1 p2 fun k hk => by
    have a := h k (by omega)
    have b := h (k + 1) (by omega)
    rw [VC_succ, VC_succ] at b
    omega
  have e0 := h 0 (by omega)
  intro x
  have e1 : VC c 0 = c.1 := by simp [VC, psum]
  have e2 : VC d 0 = d.1 := by simp [VC, psum]
  unfold VC
  rw [psum_congr x fun k _ => es k]
  omega
/-- the first point of a difference -/
def IsFd (c d : Cv) : Option Nat → Prop
  | some x => VC c x ≠ VC d x ∧ ∀ y, y < x → VC c y = VC d y
  | none => ∀ x, VC c x = VC d x
def fdW : Option Nat → W
  | some x => .int x
  | none => .non
theorem IsFd.unique {c d : Cv} {o p : Option Nat} (a : IsFd c d o) (b : IsFd c d p) : o = p := by
  cases o with
  | none => cases p with
    | none => rfl
    | some y => exact absurd (a y) b.1
  | some x => cases p with
    | none => exact absurd (b x) a.1
    | some y =>
      rcases Nat.lt_trichotomy x y with z | z | z
      · exact absurd (b.2 x z) a.1
      · rw [z]
      · exact absurd (a.2 y z) b.1
theorem IsFd.symm {c d : Cv} {o : Option Nat} (a : IsFd c d o) : IsFd d c o := by
  cases o with
  | none => exact fun x => (a x).symm
  | some x => exact ⟨fun z => a.1 z.symm, fun y hy => (a.2 y hy).symm⟩
theorem fd_ex (c d : Cv) (n : Nat) (hn : (∀ x, x < n → VC c x = VC d x) → ∀ x, VC c x = VC d x) : ∃ o, IsFd c d o ∧ ∀ x, o = some x → x < n := by
  have : ∀ m, m ≤ n → (∃ x, x < m ∧ VC c x ≠ VC d x ∧ ∀ y, y < x → VC c y = VC d y) ∨ ∀ x, x < m → VC c x = VC d x := fun m => by
    induction m with
    | zero => exact fun _ => .inr fun x hx => by omega
    | succ m ih =>
      intro hm
      rcases ih (by omega) with ⟨x, a, b, e⟩ | e
      · exact .inl ⟨x, by omega, b, e⟩
      · by_cases z : VC c m = VC d m
        · refine .inr fun x hx => ?_
          rcases Nat.lt_or_ge x m with q | q
          · exact e x q
          · have : x = m := by omega
            rw [this]; exact z
        · exact .inl ⟨m, by omega, z, e⟩
  rcases this n (Nat.le_refl _) with ⟨x, a, b, e⟩ | e
  · exact ⟨some x, ⟨b, e⟩, fun y hy => by cases hy; exact a⟩
  · exact ⟨none, hn e, fun y hy => by cases hy⟩
theorem eqW_cv {h : Hw} {i j : Int} {a b c d : List Int} : eqW (cv i a b) (cv j c d) h = some (decide (i = j ∧ a = c ∧ b = d)) := by
  have e : ∀ a : List Int, W.toD h (.tup (a.map W.int)) = some (.tuple (a.map PyData.int)) := fun a => by
    rw [W.toD, toDs_ints]; rfl
  have t : ∀ (i : Int) (a b : List Int), W.toD1 h (cv i a b) = some (.tuple [.int i, .tuple (a.map PyData.int), .tuple (b.map PyData.int)]) := fun i a b => by
    show W.toD h _ = _
    unfold cv
    rw [W.toD, W.toDs, W.toD, W.toDs, e, W.toDs, e, W.toDs]
    rfl
  unfold eqW
  rw [t, t]
  have d1 := depth_ints a
  have d2 := depth_ints b
  have d3 := depth_ints c
  have d4 := depth_ints d
  have hd : (PyData.tuple [.int i, .tuple (a.map PyData.int), .tuple (b.map PyData.int)]).depth ≤ 64 ∧ (PyData.tuple [.int j, .tuple (c.map PyData.int), .tuple (d.map PyData.int)]).depth ≤ 64 := by
    simp only [PyData.depth, PyData.depthAll]; omega
  refine (if_pos hd).trans ?_
  simp only [PyData.eqv, PyData.eqvAll, eqvAll_ints, Bool.and_true, Bool.decide_and]
  rfl
theorem cut_mid {xs : List W} {a b : Int} (ha : 0 ≤ a) (hb : 0 ≤ b) : cut xs (some a) (some b) = (xs.take b.toNat).drop a.toNat := by
  have e1 : sIx xs.length 0 (some a) = min a.toNat xs.length := if_neg (by omega)
  have e2 : sIx xs.length xs.length (some b) = min b.toNat xs.length := if_neg (by omega)
  unfold cut
  rw [e1, e2, List.drop_take]
  by_cases c : a.toNat ≤ xs.length
  · rw [Nat.min_eq_left c]
    by_cases d : b.toNat ≤ xs.length
    · rw [Nat.min_eq_left d]
    · rw [Nat.min_eq_right (by omega), List.take_of_length_le (by simp), List.take_of_length_le (by simp; omega)]
  · have d1 : xs.drop (min a.toNat xs.length) = [] := List.drop_eq_nil_of_le (by omega)
    have d2 : xs.drop a.toNat = [] := List.drop_eq_nil_of_le (by omega)
    rw [d1, d2]; simp
/-- a curve as it is drawn, all to b -/
structure OkB (b : Int) (c : Cv) : Prop where
  i : 0 ≤ c.1 ∧ c.1 ≤ b
  l : c.2.1.length ≤ 4 ∧ 0 < c.2.2.length ∧ c.2.2.length ≤ 4
  x : (∀ x ∈ c.2.1, 0 ≤ x ∧ x ≤ b) ∧ ∀ x ∈ c.2.2, 0 ≤ x ∧ x ≤ b
theorem OkB.u {b : Int} {c : Cv} (o : OkB b c) : ∀ k, 0 ≤ stC c k ∧ stC c k ≤ b := stp_all (P := fun x => 0 ≤ x ∧ x ≤ b) o.l.2.1 o.x.1 o.x.2
theorem OkB.s {b : Int} {c : Cv} (o : OkB b c) (hb : b ≤ 1000) : 0 ≤ c.2.2.sum ∧ c.2.2.sum ≤ 4000 := by
  have := sum_bd b c.2.2 o.x.2
  have l := o.l
  have : (c.2.2.length : Int) * b ≤ 4 * 1000 := Int.mul_le_mul (by omega) hb (by have := o.i; omega) (by decide)
  omega
theorem common_lcm {a b k : Nat} (ha : 0 < a) (hb : 0 < b) (hk : 0 < k) (h : b ∣ a * k) (low : ∀ j, 0 < j → j < k → ¬ b ∣ a * j) : a * k = Nat.lcm a b := by
  obtain ⟨k0, e⟩ := Nat.dvd_lcm_left a b
  have d := Nat.dvd_lcm_right a b
  have l0 := Nat.lcm_pos ha hb
  rw [e] at d l0
  have p0 : 0 < k0 := Nat.pos_of_mul_pos_left l0
  have le : k ≤ k0 := Nat.le_of_not_lt fun z => low k0 p0 z d
  have l1 : Nat.lcm a b ≤ a * k := Nat.le_of_dvd (Nat.mul_pos ha hk) (Nat.lcm_dvd (Nat.dvd_mul_right a k) h)
  have l2 : a * k ≤ a * k0 := Nat.mul_le_mul_left a le
  omega
/-- the rise in whole periods -/
def riseC (c : Cv) (n : Nat) : Int := c.2.2.sum * ((n / c.2.2.length : Nat) : Int)
def FasterC (c d : Cv) : Prop := d.2.2.sum * (c.2.2.length : Int) < c.2.2.sum * (d.2.2.length : Int)
def perC (c d : Cv) : Nat := Nat.lcm c.2.2.length d.2.2.length
def ahC (c d : Cv) : Nat := max c.2.1.length d.2.1.length
theorem faster_iff {c d : Cv} (hc : 0 < c.2.2.length) (hd : 0 < d.2.2.length) : riseC d (perC c d) < riseC c (perC c d) ↔ FasterC c d := by
  unfold riseC FasterC perC
  obtain ⟨p, ep⟩ := Nat.dvd_lcm_left c.2.2.length d.2.2.length
  obtain ⟨q, eq⟩ := Nat.dvd_lcm_right c.2.2.length d.2.2.length
  have l0 := Nat.lcm_pos hc hd
  have dp : Nat.lcm c.2.2.length d.2.2.length / c.2.2.length = p := by rw [ep]; exact Nat.mul_div_cancel_left _ hc
  have dq : Nat.lcm c.2.2.length d.2.2.length / d.2.2.length = q := by rw [eq]; exact Nat.mul_div_cancel_left _ hd
  rw [dp, dq]
  have e : c.2.2.length * p = d.2.2.length * q := by omega
  have hp : 0 < p := by
    rcases Nat.eq_zero_or_pos p with z | z
    · rw [z, Nat.mul_zero] at ep; omega
    · exact z
  have hq : 0 < q := by
    rcases Nat.eq_zero_or_pos q with z | z
    · rw [z, Nat.mul_zero] at eq; omega
    · exact z
  generalize c.2.2.length = a at *
  generalize d.2.2.length = b at *
  generalize c.2.2.sum = s at *
  generalize d.2.2.sum = t at *
  have ei : (a : Int) * p = (b : Int) * q := by rw [← Int.natCast_mul, ← Int.natCast_mul, e]
  have k1 : (t * q) * a < (s * p) * a ↔ t * q < s * p := ⟨fun h => Int.lt_of_mul_lt_mul_right h (by omega), fun h => Int.mul_lt_mul_of_pos_right h (by omega)⟩
  have k2 : (t * a) * q < (s * b) * q ↔ t * a < s * b := ⟨fun h => Int.lt_of_mul_lt_mul_right h (by omega), fun h => Int.mul_lt_mul_of_pos_right h (by omega)⟩
  have r1 : (t * q) * a = (t * a) * q := by rw [Int.mul_assoc, Int.mul_comm (q : Int) a, ← Int.mul_assoc]
  have r2 : (s * p) * a = (s * b) * q := by rw [Int.mul_assoc, Int.mul_comm (p : Int) a, ei, ← Int.mul_assoc]
  rw [← k1, ← k2, r1, r2]
/-- by how much the first one is above the second one -/
def DC (c d : Cv) (x : Nat) : Int := VC c x - VC d x
theorem VC_per {c : Cv} (hc : 0 < c.2.2.length) {x n : Nat} (hx : c.2.1.length ≤ x) (hn : c.2.2.length ∣ n) : VC c (x + n) = VC c x + riseC c n := by
  obtain ⟨m, rfl⟩ := hn
  have := psum_pers (hd := c.2.1) (tn := c.2.2) hc hx m
  unfold VC riseC stC
  rw [Nat.mul_comm, this, Nat.mul_div_cancel _ hc, Int.mul_comm c.2.2.sum]
  omega
theorem DC_per {c d : Cv} (hc : 0 < c.2.2.length) (hd : 0 < d.2.2.length) {x : Nat} (hx : ahC c d ≤ x) : DC c d (x + perC c d) = DC c d x + (riseC c (perC c d) - riseC d (perC c d)) := by
  unfold ahC at hx
  unfold DC
  have q1 := VC_per (x := x) hc (by omega) (Nat.dvd_lcm_left c.2.2.length d.2.2.length)
  have q2 := VC_per (x := x) hd (by omega) (Nat.dvd_lcm_right c.2.2.length d.2.2.length)
  unfold perC
  rw [q1, q2]
  omega
theorem DC_pers {c d : Cv} (hc : 0 < c.2.2.length) (hd : 0 < d.2.2.length) {x : Nat} (hx : ahC c d ≤ x) : ∀ j : Nat, DC c d (x + j * perC c d) = DC c d x + j * (riseC c (perC c d) - riseC d (perC c d))
  | 0 => by simp
  | j + 1 => by
    have e : x + (j + 1) * perC c d = (x + j * perC c d) + perC c d := by rw [Nat.add_mul]; omega
    rw [e, DC_per hc hd (by omega), DC_pers hc hd hx j, Int.natCast_add, Int.add_mul]
    simp; omega
/-- every later place stands in the first period -/
theorem in_per {a L x : Nat} (hL : 0 < L) (hx : a ≤ x) : ∃ y j : Nat, a ≤ y ∧ y < a + L ∧ x = y + j * L := by
  refine ⟨a + (x - a) % L, (x - a) / L, by omega, by have := Nat.mod_lt (x - a) hL; omega, ?_⟩
  have := Nat.div_add_mod (x - a) L
  rw [Nat.mul_comm] at this
  omega
theorem zmaxL_mem : ∀ (a : Int) (l : List Int), maxL (a :: l) ∈ a :: l := fun a l => by
  show l.foldl (fun m y => if y > m then y else m) a ∈ a :: l
  induction l generalizing a with
  | nil => simp
  | cons b l ih =>
    rw [List.foldl_cons]
    by_cases c : b > a
    · rw [if_pos c]; exact List.mem_cons_of_mem _ (ih b)
    · rw [if_neg c]
      rcases List.mem_cons.mp (ih a) with z | z
      · rw [z]; simp
      · exact List.mem_cons_of_mem _ (List.mem_cons_of_mem _ z)
theorem zmaxL_ge : ∀ (a : Int) (l : List Int), ∀ x ∈ a :: l, x ≤ maxL (a :: l) := fun a l => by
  show ∀ x ∈ a :: l, x ≤ l.foldl (fun m y => if y > m then y else m) a
  induction l generalizing a with
  | nil => intro x hx; simp at hx; simp [hx]
  | cons b l ih =>
    intro x hx
    rw [List.foldl_cons]
    by_cases c : b > a
    · rw [if_pos c]
      rcases List.mem_cons.mp hx with z | z
      · have := ih b b (by simp); omega
      · exact ih b x z
    · rw [if_neg c]
      rcases List.mem_cons.mp hx with z | z
      · exact ih a x (by rw [z]; simp)
      · rcases List.mem_cons.mp z with q | q
        · have := ih a a (by simp); omega
        · exact ih a x (by simp [q])
theorem zminL_mem : ∀ (a : Int) (l : List Int), minL (a :: l) ∈ a :: l := fun a l => by
  show l.foldl (fun m y => if y < m then y else m) a ∈ a :: l
  induction l generalizing a with
  | nil => simp
  | cons b l ih =>
    rw [List.foldl_cons]
    by_cases c : b < a
    · rw [if_pos c]; exact List.mem_cons_of_mem _ (ih b)
    · rw [if_neg c]
      rcases List.mem_cons.mp (ih a) with z | z
      · rw [z]; simp
      · exact List.mem_cons_of_mem _ (List.mem_cons_of_mem _ z)
theorem zminL_le : ∀ (a : Int) (l : List Int), ∀ x ∈ a :: l, minL (a :: l) ≤ x := fun a l => by
  show ∀ x ∈ a :: l, l.foldl (fun m y => if y < m then y else m) a ≤ x
  induction l generalizing a with
  | nil => intro x hx; simp at hx; simp [hx]
  | cons b l ih =>
    intro x hx
    rw [List.foldl_cons]
    by_cases c : b < a
    · rw [if_pos c]
      rcases List.mem_cons.mp hx with z | z
      · have := ih b b (by simp); omega
      · exact ih b x z
    · rw [if_neg c]
      rcases List.mem_cons.mp hx with z | z
      · exact ih a x (by rw [z]; simp)
      · rcases List.mem_cons.mp z with q | q
        · have := ih a a (by simp); omega
        · exact ih a x (by simp [q])
theorem minL_in {l : List Int} (h : l ≠ []) : minL l ∈ l ∧ ∀ x ∈ l, minL l ≤ x := by
  cases l with
  | nil => exact absurd rfl h
  | cons a l => exact ⟨zminL_mem a l, zminL_le a l⟩
theorem maxL_in {l : List Int} (h : l ≠ []) : maxL l ∈ l ∧ ∀ x ∈ l, x ≤ maxL l := by
  cases l with
  | nil => exact absurd rfl h
  | cons a l => exact ⟨zmaxL_mem a l, zmaxL_ge a l⟩
def gainC (c d : Cv) : Int := riseC c (perC c d) - riseC d (perC c d)
/-- the greatest difference in the first period, at least 0 -/
def devC (c d : Cv) : Int := maxL (0 :: (List.range (ahC c d + perC c d)).map fun x => DC c d x)
theorem perC_pos {c d : Cv} (hc : 0 < c.2.2.length) (hd : 0 < d.2.2.length) : 0 < perC c d := Nat.lcm_pos hc hd
/-- if the first one is not faster, what holds at first holds always -/
theorem DC_all {c d : Cv} (hc : 0 < c.2.2.length) (hd : 0 < d.2.2.length) (hg : gainC c d ≤ 0) {m : Int} (h : ∀ x, x < ahC c d + perC c d → DC c d x ≤ m) (x : Nat) : DC c d x ≤ m := by
  rcases Nat.lt_or_ge x (ahC c d) with q | q
  · exact h x (by omega)
  · obtain ⟨y, j, h1, h2, rfl⟩ := in_per (perC_pos hc hd) q
    rw [DC_pers hc hd h1]
    have := h y h2
    have e : (j : Int) * (riseC c (perC c d) - riseC d (perC c d)) ≤ 0 := Int.mul_nonpos_of_nonneg_of_nonpos (by omega) hg
    omega
/-- the first point above by more than m -/
def IsPs (c d : Cv) (m : Int) : Option Nat → Prop
  | some x => m < DC c d x ∧ ∀ y, y < x → DC c d y ≤ m
  | none => ∀ x, DC c d x ≤ m
theorem IsPs.unique {c d : Cv} {m : Int} {o p : Option Nat} (a : IsPs c d m o) (b : IsPs c d m p) : o = p := by
  cases o with
  | none => cases p with
    | none => rfl
    | some y => have := a y; have := b.1; omega
  | some x => cases p with
    | none => have := b x; have := a.1; omega
    | some y =>
      rcases Nat.lt_trichotomy x y with z | z | z
      · have := b.2 x z; have := a.1; omega
      · rw [z]
      · have := a.2 y z; have := b.1; omega
theorem ps_ex (c d : Cv) (m : Int) : ∃ o, IsPs c d m o := by
  by_cases h : ∃ x, m < DC c d x
  · have key : ∀ n, (∃ x, x < n ∧ m < DC c d x) → ∃ x, m < DC c d x ∧ ∀ y, y < x → DC c d y ≤ m := by
      intro n
      induction n with
      | zero => rintro ⟨x, hx, _⟩; omega
      | succ n ih =>
        intro hx
        by_cases z : ∃ x, x < n ∧ m < DC c d x
        · exact ih z
        · obtain ⟨x, h1, h2⟩ := hx
          have : x = n := by
            refine Nat.le_antisymm (by omega) (Nat.le_of_not_lt fun q => z ⟨x, q, h2⟩)
          subst this
          exact ⟨x, h2, fun y hy => Int.not_lt.mp fun q => z ⟨y, hy, q⟩⟩
    obtain ⟨x, hx⟩ := h
    obtain ⟨y, hy⟩ := key (x + 1) ⟨x, by omega, hx⟩
    exact ⟨some y, hy⟩
  · exact ⟨none, fun x => Int.not_lt.mp fun q => h ⟨x, q⟩⟩
/-- where it first passes, if nothing passes in the beginning -/
def passAt (c d : Cv) (m : Int) (x : Nat) : Int := x + ((m - VC c x + VC d x) / gainC c d + 1) * perC c d
theorem pass_min {c d : Cv} {m : Int} (hc : 0 < c.2.2.length) (hd : 0 < d.2.2.length) (hg : 0 < gainC c d) (h : ∀ x, x < ahC c d + perC c d → DC c d x ≤ m) :
    ∃ n : Nat, minL ((List.range (perC c d)).map fun t => passAt c d m (ahC c d + t)) = n ∧ IsPs c d m (some n) := by
  have hL := perC_pos hc hd
  have hne : (List.range (perC c d)).map (fun t => passAt c d m (ahC c d + t)) ≠ [] := by
    intro z
    have := congrArg List.length z
    simp at this
    omega
  obtain ⟨hm, hle⟩ := minL_in hne
  have form : ∀ t, t < perC c d → ∃ q : Nat, passAt c d m (ahC c d + t) = ((ahC c d + t + (q + 1) * perC c d : Nat) : Int) ∧ (q : Int) * gainC c d ≤ m - DC c d (ahC c d + t) ∧ m - DC c d (ahC c d + t) < (q : Int) * gainC c d + gainC c d := fun t ht => by
    have e : m - VC c (ahC c d + t) + VC d (ahC c d + t) = m - DC c d (ahC c d + t) := by unfold DC; omega
    obtain ⟨q, e1, e2, e3⟩ := quo_bd hg (show 0 ≤ m - DC c d (ahC c d + t) by have := h (ahC c d + t) (by omega); omega)
    refine ⟨q, ?_, e2, e3⟩
    unfold passAt
    rw [e, e1]
    simp only [Int.natCast_add, Int.natCast_mul]
    rfl
  obtain ⟨t, ht, et⟩ := List.mem_map.mp hm
  rw [List.mem_range] at ht
  obtain ⟨q, e1, e2, e3⟩ := form t ht
  refine ⟨ahC c d + t + (q + 1) * perC c d, by rw [← et]; exact e1, ?_, fun y hy => ?_⟩
  · rw [DC_pers hc hd (by omega)]
    have : ((q + 1 : Nat) : Int) * (riseC c (perC c d) - riseC d (perC c d)) = (q : Int) * gainC c d + gainC c d := by
      rw [Int.natCast_add, Int.add_mul]; unfold gainC; simp
    omega
  · rcases Nat.lt_or_ge y (ahC c d) with z | z
    · exact h y (by omega)
    · obtain ⟨w, j, w1, w2, rfl⟩ := in_per hL z
      obtain ⟨s, rfl⟩ : ∃ s, w = ahC c d + s := ⟨w - ahC c d, by omega⟩
      obtain ⟨r, f1, f2, f3⟩ := form s (by omega)
      have l := hle _ (List.mem_map.mpr ⟨s, List.mem_range.mpr (by omega), rfl⟩)
      rw [← et, e1, f1] at l
      have hj : j ≤ r := by
        refine Nat.le_of_not_lt fun z => ?_
        have : (r + 1) * perC c d ≤ j * perC c d := Nat.mul_le_mul_right _ z
        omega
      rw [DC_pers hc hd w1]
      have : (j : Int) * gainC c d ≤ (r : Int) * gainC c d := Int.mul_le_mul_of_nonneg_right (by omega) (by omega)
      unfold gainC at *
      omega
theorem tr_ref {h : Hw} {n : Nat} {xs : List W} (e : lstAt h n = some xs) : truth (.ref n) h = some (!xs.isEmpty) := by
  show (match h[n]? with | some (.lst xs) => some (!xs.isEmpty) | _ => none) = _
  rw [lstAt_get e]
theorem eqW_str {h : Hw} {x : Str} (hx : PyData.strOk x = true) : eqW (.str x) (.str x) h = some true := by
  have t : W.toD1 h (.str x) = some (.str x) := by
    show W.toD h _ = _
    rw [W.toD, if_pos hx]
  unfold eqW
  rw [t]
  refine (if_pos (by simp [PyData.depth])).trans ?_
  simp [PyData.eqv]
theorem gain_swap {c d : Cv} : gainC d c = -gainC c d := by
  have : perC d c = perC c d := Nat.lcm_comm _ _
  unfold gainC
  rw [this]; omega
/-- the greatest difference in the period -/
def exC (c d : Cv) : Int := maxL ((List.range (perC c d)).map fun t => DC c d (ahC c d + t))
theorem ex_in {c d : Cv} (h : 0 < perC c d) : (∃ t, t < perC c d ∧ exC c d = DC c d (ahC c d + t)) ∧ ∀ t, t < perC c d → DC c d (ahC c d + t) ≤ exC c d := by
  have hne : (List.range (perC c d)).map (fun t => DC c d (ahC c d + t)) ≠ [] := by
    intro z
    have := congrArg List.length z
    simp at this
    omega
  obtain ⟨hm, hle⟩ := maxL_in hne
  obtain ⟨t, ht, et⟩ := List.mem_map.mp hm
  exact ⟨⟨t, List.mem_range.mp ht, et.symm⟩, fun t ht => hle _ (List.mem_map.mpr ⟨t, List.mem_range.mpr ht, rfl⟩)⟩
/-- behind enough periods nothing is above -/
theorem settle {c d : Cv} (hc : 0 < c.2.2.length) (hd : 0 < d.2.2.length) (hg : gainC c d < 0) {q : Nat} (hq : max (exC c d) 0 ≤ q * -gainC c d) {x : Nat} (hx : ahC c d + q * perC c d ≤ x) : DC c d x ≤ 0 := by
  have hL := perC_pos hc hd
  obtain ⟨y, j, h1, h2, rfl⟩ := in_per hL (show ahC c d ≤ x by omega)
  obtain ⟨s, rfl⟩ : ∃ s, y = ahC c d + s := ⟨y - ahC c d, by omega⟩
  have hj : q ≤ j := by
    refine Nat.le_of_not_lt fun z => ?_
    have : (j + 1) * perC c d ≤ q * perC c d := Nat.mul_le_mul_right _ z
    rw [Nat.add_mul] at this
    omega
  have e := (ex_in (c := c) (d := d) hL).2 s (by omega)
  rw [DC_pers hc hd h1]
  have m : (q : Int) * -gainC c d ≤ (j : Int) * -gainC c d := Int.mul_le_mul_of_nonneg_right (by omega) (by omega)
  have r : (j : Int) * (riseC c (perC c d) - riseC d (perC c d)) = -((j : Int) * -gainC c d) := by
    show (j : Int) * gainC c d = _
    rw [Int.mul_neg]; omega
  omega
/-- the last point above, of the first n -/
def UpTo (c d : Cv) (n : Nat) : Option Nat → Prop
  | some x => x < n ∧ 0 < DC c d x ∧ ∀ y, x < y → y < n → DC c d y ≤ 0
  | none => ∀ y, y < n → DC c d y ≤ 0
def IsLst (c d : Cv) : Option Nat → Prop
  | some x => 0 < DC c d x ∧ ∀ y, x < y → DC c d y ≤ 0
  | none => ∀ y, DC c d y ≤ 0
theorem UpTo.last {c d : Cv} {n : Nat} {o : Option Nat} (u : UpTo c d n o) (h : ∀ y, n ≤ y → DC c d y ≤ 0) : IsLst c d o := by
  cases o with
  | none => exact fun y => (Nat.lt_or_ge y n).elim (u y) (h y)
  | some x => exact ⟨u.2.1, fun y hy => (Nat.lt_or_ge y n).elim (u.2.2 y hy) (h y)⟩
theorem IsLst.unique {c d : Cv} {o p : Option Nat} (a : IsLst c d o) (b : IsLst c d p) : o = p := by
  cases o with
  | none => cases p with
    | none => rfl
    | some y => have := a y; have := b.1; omega
  | some x => cases p with
    | none => have := b x; have := a.1; omega
    | some y =>
      rcases Nat.lt_trichotomy x y with z | z | z
      · have := a.2 y z; have := b.1; omega
      · rw [z]
      · have := b.2 x z; have := a.1; omega
theorem UpTo.step {c d : Cv} {n : Nat} {o : Option Nat} (u : UpTo c d n o) : UpTo c d (n + 1) (if 0 < DC c d n then some n else o) := by
  by_cases z : 0 < DC c d n
  · rw [if_pos z]; exact ⟨by omega, z, fun y h1 h2 => by omega⟩
  · rw [if_neg z]
    cases o with
    | none =>
      refine fun y hy => ?_
      rcases Nat.lt_or_ge y n with q | q
      · exact u y q
      · have : y = n := by omega
        rw [this]; omega
    | some x =>
      refine ⟨by have := u.1; omega, u.2.1, fun y h1 h2 => ?_⟩
      rcases Nat.lt_or_ge y n with q | q
      · exact u.2.2 y h1 q
      · have : y = n := by omega
        rw [this]; omega
theorem upto_ex (c d : Cv) : ∀ n, ∃ o, UpTo c d n o
  | 0 => ⟨none, fun y hy => by omega⟩
  | n + 1 => by
    obtain ⟨o, u⟩ := upto_ex c d n
    exact ⟨_, u.step⟩
/-- above again and again -/
def Alw (c d : Cv) : Prop := 0 < gainC c d ∨ (gainC c d = 0 ∧ ∃ x, ahC c d ≤ x ∧ x < ahC c d + perC c d ∧ 0 < DC c d x)
/-- not always: from some place on nothing is above -/
theorem not_alw {c d : Cv} (hc : 0 < c.2.2.length) (hd : 0 < d.2.2.length) (h : ¬ Alw c d) (hz : gainC c d = 0) (y : Nat) (hy : ahC c d ≤ y) : DC c d y ≤ 0 := by
  obtain ⟨w, j, h1, h2, rfl⟩ := in_per (perC_pos hc hd) hy
  rw [DC_pers hc hd h1]
  have e : riseC c (perC c d) - riseC d (perC c d) = 0 := hz
  rw [e, Int.mul_zero, Int.add_zero]
  exact Int.not_lt.mp fun q => h (.inr ⟨hz, w, h1, h2, q⟩)
def lstW : Option Nat → W
  | some x => .int x
  | none => .str "never"
/-- what both tell -/
def Told (c d : Cv) (w : W) : Prop := (Alw c d ∧ w = .str "always") ∨ (¬ Alw c d ∧ ∃ o, IsLst c d o ∧ w = lstW o)
theorem Told.alw {c d : Cv} {w : W} (t : Told c d w) (a : Alw c d) : w = .str "always" := by
  rcases t with ⟨_, e⟩ | ⟨n, _⟩
  · exact e
  · exact absurd a n
theorem Told.lst {c d : Cv} {w : W} (t : Told c d w) (a : ¬ Alw c d) {o : Option Nat} (l : IsLst c d o) : w = lstW o := by
  rcases t with ⟨b, _⟩ | ⟨_, p, q, e⟩
  · exact absurd b a
  · rw [e, l.unique q]
theorem told_ex {c d : Cv} (hc : 0 < c.2.2.length) (hd : 0 < d.2.2.length) : ∃ w, Told c d w := by
  by_cases a : Alw c d
  · exact ⟨_, .inl ⟨a, rfl⟩⟩
  · have hg : ¬ 0 < gainC c d := fun z => a (.inl z)
    by_cases z : gainC c d = 0
    · obtain ⟨o, u⟩ := upto_ex c d (ahC c d)
      exact ⟨_, .inr ⟨a, o, u.last fun y hy => not_alw hc hd a z y hy, rfl⟩⟩
    · obtain ⟨o, u⟩ := upto_ex c d (ahC c d + (max (exC c d) 0).toNat * perC c d)
      refine ⟨_, .inr ⟨a, o, u.last fun y hy => settle hc hd (by omega) ?_ hy, rfl⟩⟩
      have m : ((max (exC c d) 0).toNat : Int) * 1 ≤ ((max (exC c d) 0).toNat : Int) * -gainC c d := Int.mul_le_mul_of_nonneg_left (by omega) (by omega)
      omega
end Ev

set_option Elab.async false
set_option maxRecDepth 100000
set_option maxHeartbeats 4000000
set_option linter.all false
namespace Ev
open PySem
/-! curves by their values -/
theorem IsNf.dvd {u : Nat → Int} {hd tn : List Int} {L n : Nat} (N : IsNf u hd tn) (p : Per u L n) : tn.length ∣ L := by
  have pa : Per u tn.length hd.length := fun k hk => by rw [← N.eq, ← N.eq]; exact per_stp hd tn k hk
  have pg := Per.gcd tn.length L (pa.mono (Nat.le_max_left hd.length n)) (p.mono (Nat.le_max_right hd.length n))
  have g0 : 0 < tn.length.gcd L := Nat.gcd_pos_of_pos_left _ N.pos
  have a := N.min _ _ g0 pg
  have b := Nat.le_of_dvd N.pos (Nat.gcd_dvd_left tn.length L)
  have e : tn.length = tn.length.gcd L := by omega
  rw [e]
  exact Nat.gcd_dvd_right _ _
theorem stp_mem {hd tn : List Int} {P : Int → Prop} (h : ∀ k, P (stp hd tn k)) : (∀ x ∈ hd, P x) ∧ ∀ x ∈ tn, P x := by
  constructor
  · intro x hx
    obtain ⟨i, hi, rfl⟩ := List.mem_iff_getElem.mp hx
    rw [← stp_hd (tn := tn) hi]; exact h _
  · intro x hx
    obtain ⟨i, hi, rfl⟩ := List.mem_iff_getElem.mp hx
    rw [← stp_tn (hd := hd) hi]; exact h _
/-- a curve with the values w: at most H increments ahead of a period whose length divides P, all to b -/
structure Cu (H P : Nat) (b : Int) (w : Nat → Int) (c : Cv) : Prop where
  i : c.1 = w 0
  l : c.2.1.length ≤ H ∧ 0 < c.2.2.length ∧ c.2.2.length ∣ P
  u : ∀ n, stC c n = w (n + 1) - w n
  b : 0 ≤ w 0 ∧ w 0 ≤ b ∧ ∀ n, 0 ≤ w (n + 1) - w n ∧ w (n + 1) - w n ≤ b
/-- the curve in normal form with the values w -/
structure Nfc (w : Nat → Int) (c : Cv) : Prop where
  i : c.1 = w 0
  n : IsNf (fun n => w (n + 1) - w n) c.2.1 c.2.2
theorem Nfc.uniq {w v : Nat → Int} {c d : Cv} (a : Nfc w c) (b : Nfc v d) (e : ∀ n, w n = v n) : c = d := by
  have : w = v := funext e
  subst this
  obtain ⟨h1, h2⟩ := a.n.unique b.n
  exact Prod.ext (a.i.trans b.i.symm) (Prod.ext h1 h2)
theorem Nfc.congr {w v : Nat → Int} {c : Cv} (a : Nfc w c) (e : ∀ n, w n = v n) : Nfc v c := by
  have : w = v := funext e
  subst this; exact a
theorem Cu.congr {H P : Nat} {b : Int} {w v : Nat → Int} {c : Cv} (a : Cu H P b w c) (e : ∀ n, w n = v n) : Cu H P b v c := by
  have : w = v := funext e
  subst this; exact a
theorem Cu.mono {H P H' P' : Nat} {b b' : Int} {w : Nat → Int} {c : Cv} (a : Cu H P b w c) (h1 : H ≤ H') (h2 : P ∣ P') (h3 : b ≤ b') : Cu H' P' b' w c :=
  ⟨a.i, ⟨Nat.le_trans a.l.1 h1, a.l.2.1, Nat.dvd_trans a.l.2.2 h2⟩, a.u, a.b.1, Int.le_trans a.b.2.1 h3, fun n => ⟨(a.b.2.2 n).1, Int.le_trans (a.b.2.2 n).2 h3⟩⟩
theorem Cu.v {H P : Nat} {b : Int} {w : Nat → Int} {c : Cv} (a : Cu H P b w c) (n : Nat) : VC c n = w n := by
  have : stC c = fun n => w (n + 1) - w n := funext a.u
  unfold VC
  rw [this, psum_dif, a.i]; omega
theorem Cu.x {H P : Nat} {b : Int} {w : Nat → Int} {c : Cv} (a : Cu H P b w c) : (∀ x ∈ c.2.1, 0 ≤ x ∧ x ≤ b) ∧ ∀ x ∈ c.2.2, 0 ≤ x ∧ x ≤ b :=
  stp_mem (P := fun x => 0 ≤ x ∧ x ≤ b) fun k => by
    have := a.u k
    unfold stC at this
    rw [this]; exact a.b.2.2 k
theorem Cu.nn {H P : Nat} {b : Int} {w : Nat → Int} {c : Cv} (a : Cu H P b w c) : 0 ≤ b := by have := a.b; omega
theorem Cu.lp {H P : Nat} {b : Int} {w : Nat → Int} {c : Cv} (a : Cu H P b w c) (hP : 0 < P) : c.2.2.length ≤ P := Nat.le_of_dvd hP a.l.2.2
theorem Cu.s {H P : Nat} {b : Int} {w : Nat → Int} {c : Cv} (a : Cu H P b w c) (hP : 0 < P) : 0 ≤ c.2.2.sum ∧ c.2.2.sum ≤ P * b := by
  have s := sum_bd b c.2.2 a.x.2
  have := a.lp hP
  have m : (c.2.2.length : Int) * b ≤ (P : Int) * b := Int.mul_le_mul_of_nonneg_right (by omega) a.nn
  omega
theorem Cu.le {H P : Nat} {b : Int} {w : Nat → Int} {c : Cv} (a : Cu H P b w c) (n : Nat) : 0 ≤ w n ∧ w n ≤ b + n * b := by
  induction n with
  | zero => have := a.b; simp; omega
  | succ n ih =>
    have := a.b.2.2 n
    rw [Int.natCast_add, Int.add_mul]
    simp; omega
theorem Cu.mo {H P : Nat} {b : Int} {w : Nat → Int} {c : Cv} (a : Cu H P b w c) (n : Nat) : ∀ m, w n ≤ w (n + m)
  | 0 => by simp
  | m + 1 => by
    have := a.b.2.2 (n + m)
    have := a.mo n m
    show w n ≤ w (n + m + 1)
    omega
theorem Cu.mono' {H P : Nat} {b : Int} {w : Nat → Int} {c : Cv} (a : Cu H P b w c) {n m : Nat} (h : n ≤ m) : w n ≤ w m := by
  obtain ⟨k, rfl⟩ := Nat.le.dest h
  exact a.mo n k
theorem OkB.cu {b : Int} {c : Cv} {P : Nat} (o : OkB b c) (h : c.2.2.length ∣ P) : Cu 4 P b (VC c) c :=
  ⟨by unfold VC psum; omega, ⟨o.l.1, o.l.2.1, h⟩, fun n => by rw [VC_succ]; omega, by have := o.i; unfold VC psum; omega, by have := o.i; unfold VC psum; omega, fun n => by rw [VC_succ]; have := o.u n; omega⟩
/-- what is in normal form is a curve -/
theorem Nfc.cu {H L n : Nat} {b : Int} {w : Nat → Int} {c : Cv} (N : Nfc w c) (p : Per (fun n => w (n + 1) - w n) L n) (h : c.2.1.length ≤ H) (hb : 0 ≤ w 0 ∧ w 0 ≤ b ∧ ∀ n, 0 ≤ w (n + 1) - w n ∧ w (n + 1) - w n ≤ b) : Cu H L b w c :=
  ⟨N.i, ⟨h, N.n.pos, N.n.dvd p⟩, N.n.eq, hb⟩
theorem Cu.per {H P : Nat} {b : Int} {w : Nat → Int} {c : Cv} (a : Cu H P b w c) : Per (fun n => w (n + 1) - w n) P c.2.1.length := by
  have : stC c = fun n => w (n + 1) - w n := funext a.u
  rw [← this]
  obtain ⟨m, e⟩ := a.l.2.2
  have := (per_stp c.2.1 c.2.2).mul m
  rw [Nat.mul_comm, ← e] at this
  exact this
/-- the composition -/
def cmp2 (w v : Nat → Int) (n : Nat) : Int := v (w n).toNat
/-- a pair whose minimum and maximum stand in bounds -/
structure Pr (P M : Nat) (c d : Cv) : Prop where
  lc : c.2.1.length ≤ 100000 ∧ 0 < c.2.2.length ∧ c.2.2.length ≤ 1000
  ld : d.2.1.length ≤ 100000 ∧ 0 < d.2.2.length ∧ d.2.2.length ≤ 1000
  p : perC c d ≤ P ∧ P ≤ 1000
  e1 : exC c d ≤ M
  e2 : exC d c ≤ M
  g : -1000000000000000000 < gainC c d ∧ gainC c d < 1000000000000000000
  z : ahC c d + P * M + P + 1 ≤ 100000
theorem Pr.swap {P M : Nat} {c d : Cv} (q : Pr P M c d) : Pr P M d c := by
  have e : perC d c = perC c d := Nat.lcm_comm _ _
  have f : ahC d c = ahC c d := Nat.max_comm _ _
  exact ⟨q.ld, q.lc, by rw [e]; exact q.p, q.e2, q.e1, by rw [gain_swap]; have := q.g; omega, by rw [f]; exact q.z⟩
theorem Cu.pr {H P M : Nat} {b : Int} {w v : Nat → Int} {c d : Cv} (oc : Cu H P b w c) (od : Cu H P b v d) (hP : 0 < P ∧ P ≤ 1000) (hb : b ≤ 1000000000) (hM : b * (H + P + 1 : Nat) ≤ M) (hz : H + P * M + P + 1 ≤ 100000) : Pr P M c d ∧ perC c d ∣ P ∧ ahC c d ≤ H := by
  have lc := oc.l
  have ld := od.l
  have pc := oc.lp hP.1
  have pd := od.lp hP.1
  have hp : perC c d ∣ P := Nat.lcm_dvd lc.2.2 ld.2.2
  have hp2 := Nat.le_of_dvd hP.1 hp
  have p0 := perC_pos lc.2.1 ld.2.1
  have ha : ahC c d ≤ H := by unfold ahC; omega
  have nn := oc.nn
  have ub : ∀ t, t ≤ P → b + ((H + t : Nat) : Int) * b ≤ M := fun t ht => by
    have e : b + ((H + t : Nat) : Int) * b = b * ((H + t + 1 : Nat) : Int) := by rw [Int.mul_comm, Int.natCast_add (H + t), Int.mul_add]; omega
    rw [e]
    exact Int.le_trans (Int.mul_le_mul_of_nonneg_left (by omega) nn) hM
  have vb : ∀ n, n ≤ H + P → w n ≤ M ∧ v n ≤ M := fun n hn => by
    have a := (oc.mono' hn)
    have a' := (oc.le (H + P)).2
    have b' := (od.mono' hn)
    have b'' := (od.le (H + P)).2
    have := ub P (Nat.le_refl _)
    omega
  have ha2 : ahC d c = ahC c d := Nat.max_comm _ _
  have hp3 : perC d c = perC c d := Nat.lcm_comm _ _
  refine ⟨⟨by omega, by omega, by omega, ?_, ?_, ?_, by omega⟩, hp, ha⟩
  · obtain ⟨⟨t, ht, e⟩, _⟩ := ex_in (c := c) (d := d) p0
    rw [e]
    unfold DC
    rw [oc.v, od.v]
    have := vb (ahC c d + t) (by omega)
    have := (od.le (ahC c d + t)).1
    omega
  · obtain ⟨⟨t, ht, e⟩, _⟩ := ex_in (c := d) (d := c) (perC_pos ld.2.1 lc.2.1)
    rw [e]
    unfold DC
    rw [oc.v, od.v]
    have := vb (ahC d c + t) (by omega)
    have := (oc.le (ahC d c + t)).1
    omega
  · have q1 : VC c (ahC c d + perC c d) = VC c (ahC c d) + riseC c (perC c d) := VC_per lc.2.1 (by unfold ahC; omega) (Nat.dvd_lcm_left _ _)
    have q2 : VC d (ahC c d + perC c d) = VC d (ahC c d) + riseC d (perC c d) := VC_per ld.2.1 (by unfold ahC; omega) (Nat.dvd_lcm_right _ _)
    rw [oc.v, oc.v] at q1
    rw [od.v, od.v] at q2
    have m1 := vb (ahC c d + perC c d) (by omega)
    have m2 := vb (ahC c d) (by omega)
    have n1 := (oc.le (ahC c d)).1
    have n2 := (od.le (ahC c d)).1
    have n3 := (oc.le (ahC c d + perC c d)).1
    have n4 := (od.le (ahC c d + perC c d)).1
    have pm : M ≤ P * M := Nat.le_mul_of_pos_left _ hP.1
    unfold gainC
    omega
end Ev

/-! The text of the law in the small language, printed by gen.py. -/
namespace Law
open PySem Ev
/-! value_at(curve, x); names 0:curve 1:x 2:initial 3:transient 4:period 5:rounds 6:rest -/
def s_value_at : ISs := .cons (.asg (.tup [(.var 2), (.var 3), (.var 4)]) (.var 0)) (.cons (.ifs (.val (.cmp .le (.var 1) (.bl .len (.of (.var 3))))) (.cons (.ret (.bin .add (.var 2) (.bl .sum (.of (.slc (.var 3) .no (.at (.var 1))))))) (.nil)) (.nil)) (.cons (.asg (.tup [(.var 5), (.var 6)]) (.bi .divmod (.cons (.bin .sub (.var 1) (.bl .len (.of (.var 3)))) (.cons (.bl .len (.of (.var 4))) (.nil))))) (.cons (.ret (.bin .add (.bin .add (.bin .add (.var 2) (.bl .sum (.of (.var 3)))) (.bin .mul (.var 5) (.bl .sum (.of (.var 4))))) (.bl .sum (.of (.slc (.var 4) .no (.at (.var 6))))))) (.nil))))
def d_value_at : Df := ⟨2, 7, s_value_at⟩
/-! least_point(curve, x); names 0:curve 1:x 2:point 3:step 4:rounds 5:level 6:transient 7:period -/
def b_least_point_1 : ISs := .cons (.aug 2 .add (.cst (.int 1))) (.cons (.aug 5 .add (.var 3)) (.cons (.ifs (.val (.cmp .ge (.var 5) (.var 1))) (.cons (.ret (.var 2)) (.nil)) (.nil)) (.nil)))
def b_least_point_2 : ISs := .cons (.aug 2 .add (.cst (.int 1))) (.cons (.aug 5 .add (.var 3)) (.cons (.ifs (.val (.cmp .ge (.var 5) (.var 1))) (.cons (.brk) (.nil)) (.nil)) (.nil)))
def s_least_point : ISs := .cons (.asg (.tup [(.var 5), (.var 6), (.var 7)]) (.var 0)) (.cons (.ifs (.val (.cmp .ge (.var 5) (.var 1))) (.cons (.ret (.cst (.int 0))) (.nil)) (.nil)) (.cons (.asg (.var 2) (.cst (.int 0))) (.cons (.for (.var 3) (.of (.of (.var 6))) b_least_point_1) (.cons (.asg (.var 4) (.bin .fdiv (.bin .sub (.bin .sub (.var 1) (.var 5)) (.cst (.int 1))) (.bl .sum (.of (.var 7))))) (.cons (.aug 5 .add (.bin .mul (.var 4) (.bl .sum (.of (.var 7))))) (.cons (.aug 2 .add (.bin .mul (.var 4) (.bl .len (.of (.var 7))))) (.cons (.for (.var 3) (.of (.of (.var 7))) b_least_point_2) (.cons (.ret (.var 2)) (.nil)))))))))
def d_least_point : Df := ⟨2, 8, s_least_point⟩
/-! greatest_point(curve, x); names 0:curve 1:x -/
def s_greatest_point : ISs := .cons (.ret (.bin .sub (.call 1 (.cons (.var 0) (.cons (.bin .add (.var 1) (.cst (.int 1))) (.nil)))) (.cst (.int 1)))) (.nil)
def d_greatest_point : Df := ⟨2, 2, s_greatest_point⟩
/-! finish(calendar, start, hours); names 0:calendar 1:start 2:hours -/
def s_finish : ISs := .cons (.ifs (.val (.cmp .eq (.var 2) (.cst (.int 0)))) (.cons (.ret (.var 1)) (.nil)) (.nil)) (.cons (.ret (.call 1 (.cons (.var 0) (.cons (.bin .add (.call 0 (.cons (.var 0) (.cons (.var 1) (.nil)))) (.var 2)) (.nil))))) (.nil))
def d_finish : Df := ⟨3, 3, s_finish⟩
/-! latest_start(calendar, end, hours); names 0:calendar 1:end 2:hours 3:before -/
def s_latest_start : ISs := .cons (.ifs (.val (.cmp .eq (.var 2) (.cst (.int 0)))) (.cons (.ret (.var 1)) (.nil)) (.nil)) (.cons (.asg (.var 3) (.bin .sub (.call 0 (.cons (.var 0) (.cons (.var 1) (.nil)))) (.var 2))) (.cons (.ifs (.val (.cmp .lt (.var 3) (.cst (.int 0)))) (.cons (.ret (.cst .non)) (.nil)) (.nil)) (.cons (.ret (.call 2 (.cons (.var 0) (.cons (.var 3) (.nil))))) (.nil))))
def d_latest_start : Df := ⟨3, 4, s_latest_start⟩
/-! greatest_elapsed(calendar, hours); names 0:calendar 1:hours 2:starts 3:start -/
def c_greatest_elapsed_1 : IE := .bin .sub (.call 3 (.cons (.var 0) (.cons (.var 3) (.cons (.var 1) (.nil))))) (.var 3)
def s_greatest_elapsed : ISs := .cons (.asg (.var 2) (.rgN (.bin .add (.bl .len (.of (.idx (.var 0) (.cst (.int 1))))) (.bl .len (.of (.idx (.var 0) (.cst (.int 2)))))))) (.cons (.ret (.bl .max (.comp (.var 3) (.rgv (.var 2)) (.nil) c_greatest_elapsed_1 [3]))) (.nil))
def d_greatest_elapsed : Df := ⟨2, 4, s_greatest_elapsed⟩
/-! _law_tape(script); names 0:script 1:total 2:cell -/
def b__law_tape_1 : ISs := .cons (.asg (.var 1) (.bin .mod (.bi .toInt (.cons (.bin .add (.bin .mul (.var 1) (.cst (.int 31))) (.bi .abs (.cons (.bi .toInt (.cons (.var 2) (.nil))) (.nil)))) (.nil))) (.cst (.int 2147483647)))) (.nil)
def s__law_tape : ISs := .cons (.asg (.var 1) (.cst (.int 7))) (.cons (.for (.var 2) (.of (.of (.var 0))) b__law_tape_1) (.cons (.ret (.lst (.cons (.bl .list (.of (.var 0))) (.cons (.cst (.int 0)) (.cons (.cst (.int 0)) (.cons (.var 1) (.nil))))))) (.nil)))
def d__law_tape : Df := ⟨1, 3, s__law_tape⟩
/-! _law_draw(tape, many); names 0:tape 1:many 2:number 3:place -/
def s__law_draw : ISs := .cons (.ifs (.val (.cmp .eq (.idx (.var 0) (.cst (.int 2))) (.cst (.int 0)))) (.cons (.asg (.var 3) (.idx (.var 0) (.cst (.int 1)))) (.cons (.asg (.var 2) (.cst (.int 0))) (.cons (.ifs (.val (.cmp .lt (.var 3) (.bl .len (.of (.idx (.var 0) (.cst (.int 0))))))) (.cons (.asg (.var 2) (.bi .abs (.cons (.bi .toInt (.cons (.idx (.idx (.var 0) (.cst (.int 0))) (.var 3)) (.nil))) (.nil)))) (.nil)) (.cons (.set (.var 0) (.cst (.int 3)) (.bin .mod (.bi .toInt (.cons (.bin .add (.bin .add (.bin .mul (.idx (.var 0) (.cst (.int 3))) (.cst (.int 48271))) (.var 3)) (.cst (.int 1))) (.nil))) (.cst (.int 2147483647)))) (.cons (.asg (.var 2) (.idx (.var 0) (.cst (.int 3)))) (.nil)))) (.cons (.set (.var 0) (.cst (.int 1)) (.bin .add (.var 3) (.cst (.int 1)))) (.cons (.ifs (.val (.cmp .lt (.var 2) (.bin .pow (.cst (.int 10)) (.cst (.int 18))))) (.cons (.asg (.var 2) (.bin .mod (.bi .toInt (.cons (.bin .add (.bin .add (.bin .mul (.var 2) (.cst (.int 48271))) (.bin .mul (.var 3) (.cst (.int 69621)))) (.cst (.int 5))) (.nil))) (.cst (.int 2147483647)))) (.cons (.asg (.var 2) (.bin .mod (.bi .toInt (.cons (.bin .mul (.var 2) (.cst (.int 69621))) (.nil))) (.cst (.int 2147483629)))) (.cons (.ret (.bin .mod (.bi .toInt (.cons (.var 2) (.nil))) (.bi .max2 (.cons (.var 1) (.cons (.cst (.int 1)) (.nil)))))) (.nil)))) (.nil)) (.cons (.set (.var 0) (.cst (.int 2)) (.var 2)) (.nil))))))) (.nil)) (.cons (.asg (.var 2) (.idx (.var 0) (.cst (.int 2)))) (.cons (.set (.var 0) (.cst (.int 2)) (.bin .fdiv (.var 2) (.bi .max2 (.cons (.var 1) (.cons (.cst (.int 2)) (.nil)))))) (.cons (.ret (.bin .mod (.bi .toInt (.cons (.var 2) (.nil))) (.bi .max2 (.cons (.var 1) (.cons (.cst (.int 1)) (.nil)))))) (.nil))))
def d__law_draw : Df := ⟨2, 4, s__law_draw⟩
/-! _law_same(told, due); names 0:told 1:due 2:k -/
def c__law_same_1 : IE := .var 2
def s__law_same : ISs := .cons (.ifs (.val (.cmp .isN (.var 1) (.cst .non))) (.cons (.ret (.cmp .isN (.var 0) (.cst .non))) (.nil)) (.nil)) (.cons (.ifs (.val (.bi (.isI .tup) (.cons (.var 1) .nil))) (.cons (.ifs (.or (.not (.val (.bi (.isI .tup) (.cons (.var 0) .nil)))) (.val (.cmp .ne (.bl .len (.of (.var 0))) (.bl .len (.of (.var 1)))))) (.cons (.ret (.cst (.bl false))) (.nil)) (.nil)) (.cons (.ret (.cmp .eq (.bl .len (.comp (.var 2) (.rng1 (.bl .len (.of (.var 1)))) (.cons (.not (.val (.call 8 (.cons (.idx (.var 0) (.var 2)) (.cons (.idx (.var 1) (.var 2)) (.nil)))))) (.nil)) c__law_same_1 [2])) (.cst (.int 0)))) (.nil))) (.nil)) (.cons (.ifs (.val (.bi (.isI .str) (.cons (.var 1) .nil))) (.cons (.ret (.and (.bi (.isI .str) (.cons (.var 0) .nil)) (.cmp .eq (.var 0) (.var 1)))) (.nil)) (.nil)) (.cons (.ret (.and (.bi (.isI .int) (.cons (.var 0) .nil)) (.and (.cmp .eq (.bi (.isI .bool) (.cons (.var 0) .nil)) (.bi (.isI .bool) (.cons (.var 1) .nil))) (.cmp .eq (.var 0) (.var 1))))) (.nil))))
def d__law_same : Df := ⟨2, 3, s__law_same⟩
/-! _law_step(curve, k); names 0:curve 1:k -/
def s__law_step : ISs := .cons (.ifs (.val (.cmp .lt (.var 1) (.bl .len (.of (.idx (.var 0) (.cst (.int 1))))))) (.cons (.ret (.idx (.idx (.var 0) (.cst (.int 1))) (.var 1))) (.nil)) (.nil)) (.cons (.ret (.idx (.idx (.var 0) (.cst (.int 2))) (.bin .mod (.bi .toInt (.cons (.bin .sub (.var 1) (.bl .len (.of (.idx (.var 0) (.cst (.int 1)))))) (.nil))) (.bl .len (.of (.idx (.var 0) (.cst (.int 2)))))))) (.nil))
def d__law_step : Df := ⟨2, 2, s__law_step⟩
/-! _law_rise(tape, top); names 0:tape 1:top 2:extra -/
def s__law_rise : ISs := .cons (.asg (.var 2) (.call 7 (.cons (.var 0) (.cons (.bin .add (.var 1) (.cst (.int 1))) (.nil))))) (.cons (.ifs (.val (.cmp .eq (.var 1) (.cst (.int 1)))) (.cons (.ret (.var 2)) (.nil)) (.nil)) (.cons (.ret (.bi .min2 (.cons (.var 1) (.cons (.idx (.lst (.cons (.cst (.int 0)) (.cons (.cst (.int 1)) (.cons (.cst (.int 1)) (.cons (.cst (.int 2)) (.cons (.var 2) (.cons (.var 1) (.nil)))))))) (.call 7 (.cons (.var 0) (.cons (.cst (.int 6)) (.nil))))) (.nil))))) (.nil)))
def d__law_rise : Df := ⟨2, 3, s__law_rise⟩
/-! _law_curve(tape, top, grows); names 0:tape 1:top 2:grows 3:length 4:head 5:body 6:k -/
def c__law_curve_1 : IE := .call 10 (.cons (.var 0) (.cons (.var 1) (.nil)))
def c__law_curve_2 : IE := .call 10 (.cons (.var 0) (.cons (.var 1) (.nil)))
def s__law_curve : ISs := .cons (.asg (.var 3) (.idx (.lst (.cons (.cst (.int 0)) (.cons (.cst (.int 0)) (.cons (.cst (.int 1)) (.cons (.call 7 (.cons (.var 0) (.cons (.cst (.int 5)) (.nil)))) (.nil)))))) (.call 7 (.cons (.var 0) (.cons (.cst (.int 4)) (.nil)))))) (.cons (.asg (.var 4) (.bl .tuple (.comp (.var 6) (.rng1 (.var 3)) (.nil) c__law_curve_1 [6]))) (.cons (.asg (.var 3) (.idx (.lst (.cons (.cst (.int 1)) (.cons (.cst (.int 1)) (.cons (.cst (.int 2)) (.cons (.bin .add (.cst (.int 1)) (.call 7 (.cons (.var 0) (.cons (.cst (.int 4)) (.nil))))) (.nil)))))) (.call 7 (.cons (.var 0) (.cons (.cst (.int 4)) (.nil)))))) (.cons (.asg (.var 5) (.mk (.comp (.var 6) (.rng1 (.var 3)) (.nil) c__law_curve_2 [6]))) (.cons (.ifs (.and (.val (.var 2)) (.val (.cmp .eq (.bl .sum (.of (.var 5))) (.cst (.int 0))))) (.cons (.set (.var 5) (.call 7 (.cons (.var 0) (.cons (.bl .len (.of (.var 5))) (.nil)))) (.cst (.int 1))) (.nil)) (.nil)) (.cons (.ret (.tup (.cons (.cst (.int 0)) (.cons (.var 4) (.cons (.bl .tuple (.of (.var 5))) (.nil)))))) (.nil))))))
def d__law_curve : Df := ⟨3, 7, s__law_curve⟩
/-! _law_work(calendar, b, k); names 0:calendar 1:b 2:k 3:left 4:t -/
def b__law_work_1 : ISs := .cons (.asg (.var 3) (.bin .sub (.var 3) (.bi .toInt (.cons (.cmp .eq (.call 9 (.cons (.var 0) (.cons (.var 4) (.nil)))) (.cst (.int 1))) (.nil))))) (.cons (.ifs (.val (.cmp .eq (.var 3) (.cst (.int 0)))) (.cons (.ret (.bin .add (.var 4) (.cst (.int 1)))) (.nil)) (.nil)) (.nil))
def s__law_work : ISs := .cons (.asg (.var 3) (.var 2)) (.cons (.ifs (.val (.cmp .eq (.var 2) (.cst (.int 0)))) (.cons (.ret (.var 1)) (.nil)) (.nil)) (.cons (.for (.var 4) (.rng2 (.var 1) (.bin .add (.bin .add (.var 1) (.bl .len (.of (.idx (.var 0) (.cst (.int 1)))))) (.bin .mul (.bl .len (.of (.idx (.var 0) (.cst (.int 2))))) (.var 2)))) b__law_work_1) (.cons (.ret (.neg (.cst (.int 1)))) (.nil))))
def d__law_work : Df := ⟨3, 5, s__law_work⟩
/-! _law_last_start(calendar, e, k); names 0:calendar 1:e 2:k 3:left 4:b -/
def b__law_last_start_1 : ISs := .cons (.asg (.var 3) (.bin .sub (.var 3) (.bi .toInt (.cons (.cmp .eq (.call 9 (.cons (.var 0) (.cons (.var 4) (.nil)))) (.cst (.int 1))) (.nil))))) (.cons (.ifs (.val (.cmp .eq (.var 3) (.cst (.int 0)))) (.cons (.ret (.var 4)) (.nil)) (.nil)) (.nil))
def s__law_last_start : ISs := .cons (.asg (.var 3) (.var 2)) (.cons (.ifs (.val (.cmp .eq (.var 2) (.cst (.int 0)))) (.cons (.ret (.var 1)) (.nil)) (.nil)) (.cons (.for (.var 4) (.rng3 (.bin .sub (.var 1) (.cst (.int 1))) (.neg (.cst (.int 1)))) b__law_last_start_1) (.cons (.ret (.cst .non)) (.nil))))
def d__law_last_start : Df := ⟨3, 5, s__law_last_start⟩
/-! _law_amount(tape, top); names 0:tape 1:top -/
def s__law_amount : ISs := .cons (.ret (.idx (.lst (.cons (.cst (.int 0)) (.cons (.cst (.int 1)) (.cons (.call 7 (.cons (.var 0) (.cons (.cst (.int 12)) (.nil)))) (.cons (.call 7 (.cons (.var 0) (.cons (.bin .add (.var 1) (.cst (.int 1))) (.nil)))) (.cons (.var 1) (.nil))))))) (.call 7 (.cons (.var 0) (.cons (.cst (.int 5)) (.nil)))))) (.nil)
def d__law_amount : Df := ⟨2, 2, s__law_amount⟩
/-! _law_longest(calendar, hours); names 0:calendar 1:hours 2:longest 3:start -/
def b__law_longest_1 : ISs := .cons (.asg (.var 2) (.bi .max2 (.cons (.var 2) (.cons (.bin .sub (.call 12 (.cons (.var 0) (.cons (.var 3) (.cons (.var 1) (.nil))))) (.var 3)) (.nil))))) (.nil)
def s__law_longest : ISs := .cons (.asg (.var 2) (.cst (.int 0))) (.cons (.for (.var 3) (.rng1 (.bin .add (.bl .len (.of (.idx (.var 0) (.cst (.int 1))))) (.bl .len (.of (.idx (.var 0) (.cst (.int 2))))))) b__law_longest_1) (.cons (.ret (.var 2)) (.nil)))
def d__law_longest : Df := ⟨2, 4, s__law_longest⟩
/-! _law_by(tape, calendar, end, hours, due); names 0:tape 1:calendar 2:end 3:hours 4:due 5:near 6:start 7:told -/
def b__law_by_1 : ISs := .cons (.asg (.var 7) (.call 3 (.cons (.var 1) (.cons (.var 6) (.cons (.var 3) (.nil)))))) (.cons (.ifs (.or (.not (.val (.bi (.isI .int) (.cons (.var 7) .nil)))) (.val (.cmp .ne (.cmp .le (.var 7) (.var 2)) (.and (.cmp .notN (.var 4) (.cst .non)) (.cmp .le (.var 6) (.var 4)))))) (.cons (.ret (.cst (.bl false))) (.nil)) (.nil)) (.nil))
def s__law_by : ISs := .cons (.asg (.var 5) (.cst (.int 0))) (.cons (.ifs (.val (.cmp .notN (.var 4) (.cst .non))) (.cons (.asg (.var 5) (.bi .max2 (.cons (.cst (.int 0)) (.cons (.bin .add (.bin .sub (.var 4) (.cst (.int 1))) (.call 7 (.cons (.var 0) (.cons (.cst (.int 3)) (.nil))))) (.nil))))) (.nil)) (.nil)) (.cons (.for (.var 6) (.of (.disp (.cons (.bi .min2 (.cons (.var 5) (.cons (.cst (.int 1000)) (.nil)))) (.cons (.call 7 (.cons (.var 0) (.cons (.cst (.int 101)) (.nil)))) (.nil))))) b__law_by_1) (.cons (.ret (.cst (.bl true))) (.nil))))
def d__law_by : Df := ⟨5, 8, s__law_by⟩
/-! law(script); names 0:script 1:tape 2:pair 3:turn 4:end 5:hours 6:dues 7:longest 8:first 9:which 10:k 11:calendar -/
def c_law_1 : IE := .call 13 (.cons (.var 11) (.cons (.var 4) (.cons (.var 5) (.nil))))
def c_law_2 : IE := .call 15 (.cons (.var 11) (.cons (.var 5) (.nil)))
def b_law_3 : ISs := .cons (.ifs (.and (.val (.cmp .eq (.var 9) (.cst (.int 0)))) (.not (.val (.call 8 (.cons (.call 4 (.cons (.idx (.var 2) (.var 10)) (.cons (.var 4) (.cons (.var 5) (.nil))))) (.cons (.idx (.var 6) (.var 10)) (.nil))))))) (.cons (.ret (.cst (.bl false))) (.nil)) (.nil)) (.cons (.ifs (.and (.val (.cmp .eq (.var 9) (.cst (.int 1)))) (.not (.val (.call 8 (.cons (.call 5 (.cons (.idx (.var 2) (.var 10)) (.cons (.var 5) (.nil)))) (.cons (.idx (.var 7) (.var 10)) (.nil))))))) (.cons (.ret (.cst (.bl false))) (.nil)) (.nil)) (.nil))
def b_law_4 : ISs := .cons (.for (.var 10) (.of (.disp (.cons (.cst (.int 0)) (.cons (.cst (.int 1)) (.cons (.cst (.int 0)) (.nil)))))) b_law_3) (.nil)
def b_law_5 : ISs := .cons (.ifs (.not (.val (.call 16 (.cons (.var 1) (.cons (.idx (.var 2) (.var 10)) (.cons (.var 4) (.cons (.var 5) (.cons (.idx (.var 6) (.var 10)) (.nil))))))))) (.cons (.ret (.cst (.bl false))) (.nil)) (.nil)) (.nil)
def b_law_6 : ISs := .cons (.asg (.var 4) (.call 14 (.cons (.var 1) (.cons (.idx (.lst (.cons (.cst (.int 100)) (.cons (.cst (.int 1000)) (.nil)))) (.call 7 (.cons (.var 1) (.cons (.cst (.int 2)) (.nil))))) (.nil))))) (.cons (.asg (.var 5) (.call 14 (.cons (.var 1) (.cons (.cst (.int 100)) (.nil))))) (.cons (.asg (.var 6) (.mk (.comp (.var 11) (.of (.of (.var 2))) (.nil) c_law_1 [11]))) (.cons (.asg (.var 7) (.mk (.comp (.var 11) (.of (.of (.var 2))) (.nil) c_law_2 [11]))) (.cons (.asg (.var 8) (.call 7 (.cons (.var 1) (.cons (.cst (.int 2)) (.nil))))) (.cons (.for (.var 9) (.of (.disp (.cons (.var 8) (.cons (.bin .sub (.cst (.int 1)) (.var 8)) (.nil))))) b_law_4) (.cons (.for (.var 10) (.of (.disp (.cons (.cst (.int 0)) (.cons (.cst (.int 1)) (.nil))))) b_law_5) (.nil)))))))
def s_law : ISs := .cons (.asg (.var 1) (.call 6 (.cons (.var 0) (.nil)))) (.cons (.asg (.var 2) (.lst (.cons (.call 11 (.cons (.var 1) (.cons (.cst (.int 1)) (.cons (.cst (.bl true)) (.nil))))) (.cons (.call 11 (.cons (.var 1) (.cons (.cst (.int 1)) (.cons (.cst (.bl true)) (.nil))))) (.nil))))) (.cons (.for (.var 3) (.rng1 (.cst (.int 3))) b_law_6) (.cons (.ret (.cst (.bl true))) (.nil))))
def d_law : Df := ⟨1, 12, s_law⟩
abbrev P : Program := PySem.Challenge.pw_plantrace_k78_latest_start_and_elapsed
def r_value_at : Dd := ⟨"value_at", 1, ["curve", "x", "initial", "transient", "period", "rounds", "rest"], ["curve", "x"], d_value_at⟩
def r_least_point : Dd := ⟨"least_point", 2, ["curve", "x", "point", "step", "rounds", "level", "transient", "period"], ["curve", "x"], d_least_point⟩
def r_greatest_point : Dd := ⟨"greatest_point", 3, ["curve", "x"], ["curve", "x"], d_greatest_point⟩
def r_finish : Dd := ⟨"finish", 5, ["calendar", "start", "hours"], ["calendar", "start", "hours"], d_finish⟩
def r_latest_start : Dd := ⟨"latest_start", 6, ["calendar", "end", "hours", "before"], ["calendar", "end", "hours"], d_latest_start⟩
def r_greatest_elapsed : Dd := ⟨"greatest_elapsed", 7, ["calendar", "hours", "starts", "start"], ["calendar", "hours"], d_greatest_elapsed⟩
def r__law_tape : Dd := ⟨"_law_tape", 9, ["script", "total", "cell"], ["script"], d__law_tape⟩
def r__law_draw : Dd := ⟨"_law_draw", 10, ["tape", "many", "number", "place"], ["tape", "many"], d__law_draw⟩
def r__law_same : Dd := ⟨"_law_same", 11, ["told", "due", "k"], ["told", "due"], d__law_same⟩
def r__law_step : Dd := ⟨"_law_step", 12, ["curve", "k"], ["curve", "k"], d__law_step⟩
def r__law_rise : Dd := ⟨"_law_rise", 13, ["tape", "top", "extra"], ["tape", "top"], d__law_rise⟩
def r__law_curve : Dd := ⟨"_law_curve", 14, ["tape", "top", "grows", "length", "head", "body", "k"], ["tape", "top", "grows"], d__law_curve⟩
def r__law_work : Dd := ⟨"_law_work", 15, ["calendar", "b", "k", "left", "t"], ["calendar", "b", "k"], d__law_work⟩
def r__law_last_start : Dd := ⟨"_law_last_start", 16, ["calendar", "e", "k", "left", "b"], ["calendar", "e", "k"], d__law_last_start⟩
def r__law_amount : Dd := ⟨"_law_amount", 17, ["tape", "top"], ["tape", "top"], d__law_amount⟩
def r__law_longest : Dd := ⟨"_law_longest", 18, ["calendar", "hours", "longest", "start"], ["calendar", "hours"], d__law_longest⟩
def r__law_by : Dd := ⟨"_law_by", 19, ["tape", "calendar", "end", "hours", "due", "near", "start", "told"], ["tape", "calendar", "end", "hours", "due"], d__law_by⟩
def r_law : Dd := ⟨"law", 20, ["script", "tape", "pair", "turn", "end", "hours", "dues", "longest", "first", "which", "k", "calendar"], ["script"], d_law⟩
def rs : List Dd := [r_value_at, r_least_point, r_greatest_point, r_finish, r_latest_start, r_greatest_elapsed, r__law_tape, r__law_draw, r__law_same, r__law_step, r__law_rise, r__law_curve, r__law_work, r__law_last_start, r__law_amount, r__law_longest, r__law_by, r_law]
def blt : List Str := ["sum", "len", "divmod", "range", "max", "int", "abs", "list", "isinstance", "tuple", "str", "bool", "min"]
def mth : List Str := []
def cns : List (Str × W) := []
abbrev ds : List Df := [d_value_at, d_least_point, d_greatest_point, d_finish, d_latest_start, d_greatest_elapsed, d__law_tape, d__law_draw, d__law_same, d__law_step, d__law_rise, d__law_curve, d__law_work, d__law_last_start, d__law_amount, d__law_longest, d__law_by, d_law]
theorem ds_eq : rs.map (·.d) = ds := rfl
theorem ok_value_at : DdOk P rs blt mth cns r_value_at := ⟨⟨rfl, rfl, rfl, by decide +kernel, rfl, by decide +kernel, by decide +kernel⟩, rfl, rfl, by decide +kernel, fun _ _ _ _ _ _ us hl => match us, hl with | [_, _], _ => rfl⟩
theorem ok_least_point : DdOk P rs blt mth cns r_least_point := ⟨⟨rfl, rfl, rfl, by decide +kernel, rfl, by decide +kernel, by decide +kernel⟩, rfl, rfl, by decide +kernel, fun _ _ _ _ _ _ us hl => match us, hl with | [_, _], _ => rfl⟩
theorem ok_greatest_point : DdOk P rs blt mth cns r_greatest_point := ⟨⟨rfl, rfl, rfl, by decide +kernel, rfl, by decide +kernel, by decide +kernel⟩, rfl, rfl, by decide +kernel, fun _ _ _ _ _ _ us hl => match us, hl with | [_, _], _ => rfl⟩
theorem ok_finish : DdOk P rs blt mth cns r_finish := ⟨⟨rfl, rfl, rfl, by decide +kernel, rfl, by decide +kernel, by decide +kernel⟩, rfl, rfl, by decide +kernel, fun _ _ _ _ _ _ us hl => match us, hl with | [_, _, _], _ => rfl⟩
theorem ok_latest_start : DdOk P rs blt mth cns r_latest_start := ⟨⟨rfl, rfl, rfl, by decide +kernel, rfl, by decide +kernel, by decide +kernel⟩, rfl, rfl, by decide +kernel, fun _ _ _ _ _ _ us hl => match us, hl with | [_, _, _], _ => rfl⟩
theorem ok_greatest_elapsed : DdOk P rs blt mth cns r_greatest_elapsed := ⟨⟨rfl, rfl, rfl, by decide +kernel, rfl, by decide +kernel, by decide +kernel⟩, rfl, rfl, by decide +kernel, fun _ _ _ _ _ _ us hl => match us, hl with | [_, _], _ => rfl⟩
theorem ok__law_tape : DdOk P rs blt mth cns r__law_tape := ⟨⟨rfl, rfl, rfl, by decide +kernel, rfl, by decide +kernel, by decide +kernel⟩, rfl, rfl, by decide +kernel, fun _ _ _ _ _ _ us hl => match us, hl with | [_], _ => rfl⟩
theorem ok__law_draw : DdOk P rs blt mth cns r__law_draw := ⟨⟨rfl, rfl, rfl, by decide +kernel, rfl, by decide +kernel, by decide +kernel⟩, rfl, rfl, by decide +kernel, fun _ _ _ _ _ _ us hl => match us, hl with | [_, _], _ => rfl⟩
theorem ok__law_same : DdOk P rs blt mth cns r__law_same := ⟨⟨rfl, rfl, rfl, by decide +kernel, rfl, by decide +kernel, by decide +kernel⟩, rfl, rfl, by decide +kernel, fun _ _ _ _ _ _ us hl => match us, hl with | [_, _], _ => rfl⟩
theorem ok__law_step : DdOk P rs blt mth cns r__law_step := ⟨⟨rfl, rfl, rfl, by decide +kernel, rfl, by decide +kernel, by decide +kernel⟩, rfl, rfl, by decide +kernel, fun _ _ _ _ _ _ us hl => match us, hl with | [_, _], _ => rfl⟩
theorem ok__law_rise : DdOk P rs blt mth cns r__law_rise := ⟨⟨rfl, rfl, rfl, by decide +kernel, rfl, by decide +kernel, by decide +kernel⟩, rfl, rfl, by decide +kernel, fun _ _ _ _ _ _ us hl => match us, hl with | [_, _], _ => rfl⟩
theorem ok__law_curve : DdOk P rs blt mth cns r__law_curve := ⟨⟨rfl, rfl, rfl, by decide +kernel, rfl, by decide +kernel, by decide +kernel⟩, rfl, rfl, by decide +kernel, fun _ _ _ _ _ _ us hl => match us, hl with | [_, _, _], _ => rfl⟩
theorem ok__law_work : DdOk P rs blt mth cns r__law_work := ⟨⟨rfl, rfl, rfl, by decide +kernel, rfl, by decide +kernel, by decide +kernel⟩, rfl, rfl, by decide +kernel, fun _ _ _ _ _ _ us hl => match us, hl with | [_, _, _], _ => rfl⟩
theorem ok__law_last_start : DdOk P rs blt mth cns r__law_last_start := ⟨⟨rfl, rfl, rfl, by decide +kernel, rfl, by decide +kernel, by decide +kernel⟩, rfl, rfl, by decide +kernel, fun _ _ _ _ _ _ us hl => match us, hl with | [_, _, _], _ => rfl⟩
theorem ok__law_amount : DdOk P rs blt mth cns r__law_amount := ⟨⟨rfl, rfl, rfl, by decide +kernel, rfl, by decide +kernel, by decide +kernel⟩, rfl, rfl, by decide +kernel, fun _ _ _ _ _ _ us hl => match us, hl with | [_, _], _ => rfl⟩
theorem ok__law_longest : DdOk P rs blt mth cns r__law_longest := ⟨⟨rfl, rfl, rfl, by decide +kernel, rfl, by decide +kernel, by decide +kernel⟩, rfl, rfl, by decide +kernel, fun _ _ _ _ _ _ us hl => match us, hl with | [_, _], _ => rfl⟩
theorem ok__law_by : DdOk P rs blt mth cns r__law_by := ⟨⟨rfl, rfl, rfl, by decide +kernel, rfl, by decide +kernel, by decide +kernel⟩, rfl, rfl, by decide +kernel, fun _ _ _ _ _ _ us hl => match us, hl with | [_, _, _, _, _], _ => rfl⟩
theorem ok_law : DdOk P rs blt mth cns r_law := ⟨⟨rfl, rfl, rfl, by decide +kernel, rfl, by decide +kernel, by decide +kernel⟩, rfl, rfl, by decide +kernel, fun _ _ _ _ _ _ us hl => match us, hl with | [_], _ => rfl⟩
theorem oks : ∀ r ∈ rs, DdOk P rs blt mth cns r := by
  intro r hr
  simp only [rs, List.mem_cons, List.not_mem_nil, or_false] at hr
  rcases hr with rfl | rfl | rfl | rfl | rfl | rfl | rfl | rfl | rfl | rfl | rfl | rfl | rfl | rfl | rfl | rfl | rfl | rfl
  · exact ok_value_at
  · exact ok_least_point
  · exact ok_greatest_point
  · exact ok_finish
  · exact ok_latest_start
  · exact ok_greatest_elapsed
  · exact ok__law_tape
  · exact ok__law_draw
  · exact ok__law_same
  · exact ok__law_step
  · exact ok__law_rise
  · exact ok__law_curve
  · exact ok__law_work
  · exact ok__law_last_start
  · exact ok__law_amount
  · exact ok__law_longest
  · exact ok__law_by
  · exact ok_law
theorem go_value_at {k : Nat} {h : Hw} {Q : W → Hw → Prop} {E : Ex → Hw → Prop} {a0 a1 : W} (w : wps (evSs (PhiN ds k) s_value_at [some a0, some a1, none, none, none, none, none] h) (fin h Q E)) : wp (PhiN ds (k + 1) 0 [a0, a1] h) Q E := wp_fn (d := d_value_at) rfl rfl w
theorem go_least_point {k : Nat} {h : Hw} {Q : W → Hw → Prop} {E : Ex → Hw → Prop} {a0 a1 : W} (w : wps (evSs (PhiN ds k) s_least_point [some a0, some a1, none, none, none, none, none, none] h) (fin h Q E)) : wp (PhiN ds (k + 1) 1 [a0, a1] h) Q E := wp_fn (d := d_least_point) rfl rfl w
theorem go_greatest_point {k : Nat} {h : Hw} {Q : W → Hw → Prop} {E : Ex → Hw → Prop} {a0 a1 : W} (w : wps (evSs (PhiN ds k) s_greatest_point [some a0, some a1] h) (fin h Q E)) : wp (PhiN ds (k + 1) 2 [a0, a1] h) Q E := wp_fn (d := d_greatest_point) rfl rfl w
theorem go_finish {k : Nat} {h : Hw} {Q : W → Hw → Prop} {E : Ex → Hw → Prop} {a0 a1 a2 : W} (w : wps (evSs (PhiN ds k) s_finish [some a0, some a1, some a2] h) (fin h Q E)) : wp (PhiN ds (k + 1) 3 [a0, a1, a2] h) Q E := wp_fn (d := d_finish) rfl rfl w
theorem go_latest_start {k : Nat} {h : Hw} {Q : W → Hw → Prop} {E : Ex → Hw → Prop} {a0 a1 a2 : W} (w : wps (evSs (PhiN ds k) s_latest_start [some a0, some a1, some a2, none] h) (fin h Q E)) : wp (PhiN ds (k + 1) 4 [a0, a1, a2] h) Q E := wp_fn (d := d_latest_start) rfl rfl w
theorem go_greatest_elapsed {k : Nat} {h : Hw} {Q : W → Hw → Prop} {E : Ex → Hw → Prop} {a0 a1 : W} (w : wps (evSs (PhiN ds k) s_greatest_elapsed [some a0, some a1, none, none] h) (fin h Q E)) : wp (PhiN ds (k + 1) 5 [a0, a1] h) Q E := wp_fn (d := d_greatest_elapsed) rfl rfl w
theorem go__law_tape {k : Nat} {h : Hw} {Q : W → Hw → Prop} {E : Ex → Hw → Prop} {a0 : W} (w : wps (evSs (PhiN ds k) s__law_tape [some a0, none, none] h) (fin h Q E)) : wp (PhiN ds (k + 1) 6 [a0] h) Q E := wp_fn (d := d__law_tape) rfl rfl w
theorem go__law_draw {k : Nat} {h : Hw} {Q : W → Hw → Prop} {E : Ex → Hw → Prop} {a0 a1 : W} (w : wps (evSs (PhiN ds k) s__law_draw [some a0, some a1, none, none] h) (fin h Q E)) : wp (PhiN ds (k + 1) 7 [a0, a1] h) Q E := wp_fn (d := d__law_draw) rfl rfl w
theorem go__law_same {k : Nat} {h : Hw} {Q : W → Hw → Prop} {E : Ex → Hw → Prop} {a0 a1 : W} (w : wps (evSs (PhiN ds k) s__law_same [some a0, some a1, none] h) (fin h Q E)) : wp (PhiN ds (k + 1) 8 [a0, a1] h) Q E := wp_fn (d := d__law_same) rfl rfl w
theorem go__law_step {k : Nat} {h : Hw} {Q : W → Hw → Prop} {E : Ex → Hw → Prop} {a0 a1 : W} (w : wps (evSs (PhiN ds k) s__law_step [some a0, some a1] h) (fin h Q E)) : wp (PhiN ds (k + 1) 9 [a0, a1] h) Q E := wp_fn (d := d__law_step) rfl rfl w
theorem go__law_rise {k : Nat} {h : Hw} {Q : W → Hw → Prop} {E : Ex → Hw → Prop} {a0 a1 : W} (w : wps (evSs (PhiN ds k) s__law_rise [some a0, some a1, none] h) (fin h Q E)) : wp (PhiN ds (k + 1) 10 [a0, a1] h) Q E := wp_fn (d := d__law_rise) rfl rfl w
theorem go__law_curve {k : Nat} {h : Hw} {Q : W → Hw → Prop} {E : Ex → Hw → Prop} {a0 a1 a2 : W} (w : wps (evSs (PhiN ds k) s__law_curve [some a0, some a1, some a2, none, none, none, none] h) (fin h Q E)) : wp (PhiN ds (k + 1) 11 [a0, a1, a2] h) Q E := wp_fn (d := d__law_curve) rfl rfl w
theorem go__law_work {k : Nat} {h : Hw} {Q : W → Hw → Prop} {E : Ex → Hw → Prop} {a0 a1 a2 : W} (w : wps (evSs (PhiN ds k) s__law_work [some a0, some a1, some a2, none, none] h) (fin h Q E)) : wp (PhiN ds (k + 1) 12 [a0, a1, a2] h) Q E := wp_fn (d := d__law_work) rfl rfl w
theorem go__law_last_start {k : Nat} {h : Hw} {Q : W → Hw → Prop} {E : Ex → Hw → Prop} {a0 a1 a2 : W} (w : wps (evSs (PhiN ds k) s__law_last_start [some a0, some a1, some a2, none, none] h) (fin h Q E)) : wp (PhiN ds (k + 1) 13 [a0, a1, a2] h) Q E := wp_fn (d := d__law_last_start) rfl rfl w
theorem go__law_amount {k : Nat} {h : Hw} {Q : W → Hw → Prop} {E : Ex → Hw → Prop} {a0 a1 : W} (w : wps (evSs (PhiN ds k) s__law_amount [some a0, some a1] h) (fin h Q E)) : wp (PhiN ds (k + 1) 14 [a0, a1] h) Q E := wp_fn (d := d__law_amount) rfl rfl w
theorem go__law_longest {k : Nat} {h : Hw} {Q : W → Hw → Prop} {E : Ex → Hw → Prop} {a0 a1 : W} (w : wps (evSs (PhiN ds k) s__law_longest [some a0, some a1, none, none] h) (fin h Q E)) : wp (PhiN ds (k + 1) 15 [a0, a1] h) Q E := wp_fn (d := d__law_longest) rfl rfl w
theorem go__law_by {k : Nat} {h : Hw} {Q : W → Hw → Prop} {E : Ex → Hw → Prop} {a0 a1 a2 a3 a4 : W} (w : wps (evSs (PhiN ds k) s__law_by [some a0, some a1, some a2, some a3, some a4, none, none, none] h) (fin h Q E)) : wp (PhiN ds (k + 1) 16 [a0, a1, a2, a3, a4] h) Q E := wp_fn (d := d__law_by) rfl rfl w
theorem go_law {k : Nat} {h : Hw} {Q : W → Hw → Prop} {E : Ex → Hw → Prop} {a0 : W} (w : wps (evSs (PhiN ds k) s_law [some a0, none, none, none, none, none, none, none, none, none, none, none] h) (fin h Q E)) : wp (PhiN ds (k + 1) 17 [a0] h) Q E := wp_fn (d := d_law) rfl rfl w
end Law

namespace Law
open PySem Ev
/-! the tape -/
def IsT (q : Nat) (o : O) : Prop := ∃ a b c : Int, 0 ≤ a ∧ o = .lst [.ref q, .int a, .int b, .int c]
structure Tp (q p : Nat) (h : Hw) : Prop where
  ne : p ≠ q
  src : ∃ ns : List Int, lstAt h q = some (ns.map W.int)
  at_ : ∃ a b c : Int, 0 ≤ a ∧ lstAt h p = some [.ref q, .int a, .int b, .int c]
theorem Tp.lt {q p : Nat} {h : Hw} (t : Tp q p h) : p < h.length := by obtain ⟨_, _, _, _, e⟩ := t.at_; exact lstAt_lt e
theorem Tp.ltq {q p : Nat} {h : Hw} (t : Tp q p h) : q < h.length := by obtain ⟨_, e⟩ := t.src; exact lstAt_lt e
theorem Tp.set {q p : Nat} {h : Hw} {o : O} (t : Tp q p h) (i : IsT q o) : Tp q p (h.set p o) := by
  obtain ⟨a, b, c, ha, rfl⟩ := i
  obtain ⟨ns, e⟩ := t.src
  exact ⟨t.ne, ⟨ns, by rw [lstAt_ne t.ne]; exact e⟩, a, b, c, ha, lstAt_set t.lt⟩
theorem Tp.app {q p : Nat} {h : Hw} (t : Tp q p h) (g : Hw) : Tp q p (h ++ g) := by
  obtain ⟨ns, e⟩ := t.src
  obtain ⟨a, b, c, ha, e2⟩ := t.at_
  exact ⟨t.ne, ⟨ns, by rw [lstAt_al t.ltq]; exact e⟩, a, b, c, ha, by rw [lstAt_al t.lt]; exact e2⟩
theorem Tp.self {q p : Nat} {h : Hw} (t : Tp q p h) : ∃ o, IsT q o ∧ h = h.set p o := by
  obtain ⟨a, b, c, ha, e2⟩ := t.at_
  refine ⟨_, ⟨a, b, c, ha, rfl⟩, ?_⟩
  have := lstAt_get e2
  rw [List.getElem?_eq_some_iff] at this
  obtain ⟨h1, h2⟩ := this
  rw [← h2, List.set_getElem_self]
theorem IsT.old {q p : Nat} {h g : Hw} {o : O} (i : IsT q o) (hq : q < h.length) (u : Old h g) : Old h (g.set p o) := by
  obtain ⟨a, b, c, ha, rfl⟩ := i
  exact u.set (blws_cons (blw_ref hq) (blws_cons blw_int (blws_cons blw_int (blws_cons blw_int blws_nil))))
theorem tape_wp {k : Nat} {ns : List Int} {Q : W → Hw → Prop} {E : Ex → Hw → Prop} (K : ∀ c : Int, Q (.ref 1) [.lst (ns.map W.int), .lst [.ref 0, .int 0, .int 0, .int c]]) : wp (PhiN ds (k + 1) 6 [.fl (ns.map W.int)] []) Q E := by
  refine go__law_tape ?_
  unfold s__law_tape
  try simp -implicitDefEqProofs -dsimp (disch := first | omega | (simp only [List.length_set, List.length_append, List.length_cons, List.length_nil, List.length_map]; omega)) only [↓wp_ok, ↓wp_err, ↓wp_exc, ↓wp_bind, ↓wp_var, ↓wp_cst, ↓wp_bin, ↓wp_neg, ↓wp_cmp, ↓wp_and, ↓wp_or, ↓wp_not, ↓wp_ite, ↓wp_tup, ↓wp_lst, ↓wp_idx, ↓wp_slc, ↓wp_call, ↓wp_bi, ↓wp_bl, ↓wp_mt, ↓wp_mk, ↓wp_lr1, ↓wp_lr2, ↓wp_aa, ↓wp_tr2, ↓wp_maxD, ↓wp_srt, ↓wp_glc, ↓wp_rgN, ↓wp_srtD, ↓wp_lc2, ↓wp_i3, ↓wp_iv, ↓mt_pp, ↓mt_ppA, ↓wp_esn, ↓wp_esc, ↓wp_pn, ↓wp_pa, ↓wp_tv, ↓wp_ta, ↓wp_to, ↓wp_tn, ↓wp_lo, ↓wp_ld, ↓wp_lc, ↓wp_tsn, ↓wp_tsc, ↓wp_io, ↓wp_i1, ↓wp_i2, ↓wp_iz, ↓wp_ie, ↓wo_some, ↓wo_none, ↓br_t, ↓br_f, ↓wps_ok, ↓wps_st, ↓wb_add, ↓wb_sub, ↓wb_mulR, ↓wb_mulL, ↓wb_div, ↓wb_mod, ↓wb_pow, ↓wb_addT, ↓wb_mulT, ↓wb_addL, ↓wb_mulLs, ↓wn_neg, ↓wc_eq, ↓wc_ne, ↓wc_lt, ↓wc_le, ↓wc_gt, ↓wc_ge, ↓wc_in, ↓wc_nin, ↓wc_isN, ↓wc_notN, ↓item_int, ↓sl_tup, ↓sl_ref, ↓bi_len, ↓bi_abs, ↓bi_int, ↓bi_intb, ↓bi_isI, ↓bi_max, ↓bi_min, ↓bi_divmod, ↓bi_lcm, ↓bi_gcd, ↓bl_sum, ↓bl_tuple, ↓bl_list, ↓bl_len, ↓bl_max, ↓bl_min, ↓mt_app, ↓mt_ext, ↓mt_ix, ↓setIt_ref, ↓ws_n, ↓ws_c, ↓ws_expr, ↓ws_asg, ↓ws_set, ↓ws_aug, ↓ws_augS, ↓ws_bad, ↓ws_if, ↓ws_for, ↓ws_whl, ↓ws_ret, ↓ws_retN, ↓ws_brk, ↓ws_cont, ↓ws_pass, ↓sq_n, ↓sq_b, ↓sq_c, ↓sq_r, ↓sq_z, ↓fin_ret, ↓fin_next, ↓fin_rz, ↓isTy_cv, ↓isTy_rt, ↓tr_cv, ↓tr_rt, look_z, look_s, rgW_rg, isNon_non, isNon_bl, isNon_int, isNon_str, isNon_tup, isNon_fl, isNon_ref, eqW_int, eqW_bl, tr_non, tr_bl, tr_int, tr_tup, ixN_in, ixN_neg, mtW_ref, seqOf_ref, seqOf_tup, seqOf_fl, seqOf_rt, seqOf_cv, isNon_rt, isNon_cv, isTup_rt, isTup_cv, guOf_rt, guOf_cv, isTy_rt, isTy_cv, cv_eq, rt_eq, asg_rt, asg_cv, asg_var, asg_tup2, asg_tup3, isTy, guOf, isTup, intW, aug_add, aug_sub, augO_a, augO_s, lstAt_z, lstAt_s, lstAt_al, lstAt_e, lstAt_ar, Nat.sub_self, Nat.add_sub_cancel_left, Nat.reduceSubDiff, List.append_assoc, lstAt_set, lstAt_ne, toInts_ints, toInts_nil, toInts_cons, toBls_nil, toBls_cons, Option.map_some, List.set_cons_succ, List.set_cons_zero, List.getElem?_cons_zero, List.getElem?_cons_succ, List.getElem_cons_zero, List.getElem_cons_succ, List.length_cons, List.length_nil, List.length_set, List.length_append, List.length_map, List.nil_append, List.cons_append, List.append_nil, List.set_set, Nat.reduceAdd, Nat.reduceLeDiff, Nat.reduceLT, Nat.reduceSub, true_and, and_true, Bool.not_true, Bool.not_false, decide_true, decide_false, Int.reduceToNat, Int.reducePow, Int.reduceNeg, Int.cast_ofNat_Int, decide_eq_true_eq, Nat.zero_add, Nat.add_zero, Int.toNat_natCast, Int.reduceLT, Int.reduceLE, Int.reduceBNe, Int.reduceEq, Int.natCast_add, Nat.le_refl]
  refine wps_for W.int ns (fun _ ρ h => ∃ t x, ρ = [some (.fl (ns.map W.int)), some (.int t), x] ∧ h = []) (fun _ _ _ _ => guOk_nil) ?_ ⟨7, none, rfl, rfl⟩ ?_
  · rintro pre a suf ρ h e ⟨t, x, rfl, rfl⟩
    try simp -implicitDefEqProofs -dsimp (disch := first | omega | (simp only [List.length_set, List.length_append, List.length_cons, List.length_nil, List.length_map]; omega)) only [↓wp_ok, ↓wp_err, ↓wp_exc, ↓wp_bind, ↓wp_var, ↓wp_cst, ↓wp_bin, ↓wp_neg, ↓wp_cmp, ↓wp_and, ↓wp_or, ↓wp_not, ↓wp_ite, ↓wp_tup, ↓wp_lst, ↓wp_idx, ↓wp_slc, ↓wp_call, ↓wp_bi, ↓wp_bl, ↓wp_mt, ↓wp_mk, ↓wp_lr1, ↓wp_lr2, ↓wp_aa, ↓wp_tr2, ↓wp_maxD, ↓wp_srt, ↓wp_glc, ↓wp_rgN, ↓wp_srtD, ↓wp_lc2, ↓wp_i3, ↓wp_iv, ↓mt_pp, ↓mt_ppA, ↓wp_esn, ↓wp_esc, ↓wp_pn, ↓wp_pa, ↓wp_tv, ↓wp_ta, ↓wp_to, ↓wp_tn, ↓wp_lo, ↓wp_ld, ↓wp_lc, ↓wp_tsn, ↓wp_tsc, ↓wp_io, ↓wp_i1, ↓wp_i2, ↓wp_iz, ↓wp_ie, ↓wo_some, ↓wo_none, ↓br_t, ↓br_f, ↓wps_ok, ↓wps_st, ↓wb_add, ↓wb_sub, ↓wb_mulR, ↓wb_mulL, ↓wb_div, ↓wb_mod, ↓wb_pow, ↓wb_addT, ↓wb_mulT, ↓wb_addL, ↓wb_mulLs, ↓wn_neg, ↓wc_eq, ↓wc_ne, ↓wc_lt, ↓wc_le, ↓wc_gt, ↓wc_ge, ↓wc_in, ↓wc_nin, ↓wc_isN, ↓wc_notN, ↓item_int, ↓sl_tup, ↓sl_ref, ↓bi_len, ↓bi_abs, ↓bi_int, ↓bi_intb, ↓bi_isI, ↓bi_max, ↓bi_min, ↓bi_divmod, ↓bi_lcm, ↓bi_gcd, ↓bl_sum, ↓bl_tuple, ↓bl_list, ↓bl_len, ↓bl_max, ↓bl_min, ↓mt_app, ↓mt_ext, ↓mt_ix, ↓setIt_ref, ↓ws_n, ↓ws_c, ↓ws_expr, ↓ws_asg, ↓ws_set, ↓ws_aug, ↓ws_augS, ↓ws_bad, ↓ws_if, ↓ws_for, ↓ws_whl, ↓ws_ret, ↓ws_retN, ↓ws_brk, ↓ws_cont, ↓ws_pass, ↓sq_n, ↓sq_b, ↓sq_c, ↓sq_r, ↓sq_z, ↓fin_ret, ↓fin_next, ↓fin_rz, ↓isTy_cv, ↓isTy_rt, ↓tr_cv, ↓tr_rt, look_z, look_s, rgW_rg, isNon_non, isNon_bl, isNon_int, isNon_str, isNon_tup, isNon_fl, isNon_ref, eqW_int, eqW_bl, tr_non, tr_bl, tr_int, tr_tup, ixN_in, ixN_neg, mtW_ref, seqOf_ref, seqOf_tup, seqOf_fl, seqOf_rt, seqOf_cv, isNon_rt, isNon_cv, isTup_rt, isTup_cv, guOf_rt, guOf_cv, isTy_rt, isTy_cv, cv_eq, rt_eq, asg_rt, asg_cv, asg_var, asg_tup2, asg_tup3, isTy, guOf, isTup, intW, aug_add, aug_sub, augO_a, augO_s, lstAt_z, lstAt_s, lstAt_al, lstAt_e, lstAt_ar, Nat.sub_self, Nat.add_sub_cancel_left, Nat.reduceSubDiff, List.append_assoc, lstAt_set, lstAt_ne, toInts_ints, toInts_nil, toInts_cons, toBls_nil, toBls_cons, Option.map_some, List.set_cons_succ, List.set_cons_zero, List.getElem?_cons_zero, List.getElem?_cons_succ, List.getElem_cons_zero, List.getElem_cons_succ, List.length_cons, List.length_nil, List.length_set, List.length_append, List.length_map, List.nil_append, List.cons_append, List.append_nil, List.set_set, Nat.reduceAdd, Nat.reduceLeDiff, Nat.reduceLT, Nat.reduceSub, true_and, and_true, Bool.not_true, Bool.not_false, decide_true, decide_false, Int.reduceToNat, Int.reducePow, Int.reduceNeg, Int.cast_ofNat_Int, decide_eq_true_eq, Nat.zero_add, Nat.add_zero, Int.toNat_natCast, Int.reduceLT, Int.reduceLE, Int.reduceBNe, Int.reduceEq, Int.natCast_add, Nat.le_refl, b__law_tape_1]
    exact ⟨_, _, rfl⟩
  · rintro ρ h ⟨t, x, rfl, rfl⟩
    try simp -implicitDefEqProofs -dsimp (disch := first | omega | (simp only [List.length_set, List.length_append, List.length_cons, List.length_nil, List.length_map]; omega)) only [↓wp_ok, ↓wp_err, ↓wp_exc, ↓wp_bind, ↓wp_var, ↓wp_cst, ↓wp_bin, ↓wp_neg, ↓wp_cmp, ↓wp_and, ↓wp_or, ↓wp_not, ↓wp_ite, ↓wp_tup, ↓wp_lst, ↓wp_idx, ↓wp_slc, ↓wp_call, ↓wp_bi, ↓wp_bl, ↓wp_mt, ↓wp_mk, ↓wp_lr1, ↓wp_lr2, ↓wp_aa, ↓wp_tr2, ↓wp_maxD, ↓wp_srt, ↓wp_glc, ↓wp_rgN, ↓wp_srtD, ↓wp_lc2, ↓wp_i3, ↓wp_iv, ↓mt_pp, ↓mt_ppA, ↓wp_esn, ↓wp_esc, ↓wp_pn, ↓wp_pa, ↓wp_tv, ↓wp_ta, ↓wp_to, ↓wp_tn, ↓wp_lo, ↓wp_ld, ↓wp_lc, ↓wp_tsn, ↓wp_tsc, ↓wp_io, ↓wp_i1, ↓wp_i2, ↓wp_iz, ↓wp_ie, ↓wo_some, ↓wo_none, ↓br_t, ↓br_f, ↓wps_ok, ↓wps_st, ↓wb_add, ↓wb_sub, ↓wb_mulR, ↓wb_mulL, ↓wb_div, ↓wb_mod, ↓wb_pow, ↓wb_addT, ↓wb_mulT, ↓wb_addL, ↓wb_mulLs, ↓wn_neg, ↓wc_eq, ↓wc_ne, ↓wc_lt, ↓wc_le, ↓wc_gt, ↓wc_ge, ↓wc_in, ↓wc_nin, ↓wc_isN, ↓wc_notN, ↓item_int, ↓sl_tup, ↓sl_ref, ↓bi_len, ↓bi_abs, ↓bi_int, ↓bi_intb, ↓bi_isI, ↓bi_max, ↓bi_min, ↓bi_divmod, ↓bi_lcm, ↓bi_gcd, ↓bl_sum, ↓bl_tuple, ↓bl_list, ↓bl_len, ↓bl_max, ↓bl_min, ↓mt_app, ↓mt_ext, ↓mt_ix, ↓setIt_ref, ↓ws_n, ↓ws_c, ↓ws_expr, ↓ws_asg, ↓ws_set, ↓ws_aug, ↓ws_augS, ↓ws_bad, ↓ws_if, ↓ws_for, ↓ws_whl, ↓ws_ret, ↓ws_retN, ↓ws_brk, ↓ws_cont, ↓ws_pass, ↓sq_n, ↓sq_b, ↓sq_c, ↓sq_r, ↓sq_z, ↓fin_ret, ↓fin_next, ↓fin_rz, ↓isTy_cv, ↓isTy_rt, ↓tr_cv, ↓tr_rt, look_z, look_s, rgW_rg, isNon_non, isNon_bl, isNon_int, isNon_str, isNon_tup, isNon_fl, isNon_ref, eqW_int, eqW_bl, tr_non, tr_bl, tr_int, tr_tup, ixN_in, ixN_neg, mtW_ref, seqOf_ref, seqOf_tup, seqOf_fl, seqOf_rt, seqOf_cv, isNon_rt, isNon_cv, isTup_rt, isTup_cv, guOf_rt, guOf_cv, isTy_rt, isTy_cv, cv_eq, rt_eq, asg_rt, asg_cv, asg_var, asg_tup2, asg_tup3, isTy, guOf, isTup, intW, aug_add, aug_sub, augO_a, augO_s, lstAt_z, lstAt_s, lstAt_al, lstAt_e, lstAt_ar, Nat.sub_self, Nat.add_sub_cancel_left, Nat.reduceSubDiff, List.append_assoc, lstAt_set, lstAt_ne, toInts_ints, toInts_nil, toInts_cons, toBls_nil, toBls_cons, Option.map_some, List.set_cons_succ, List.set_cons_zero, List.getElem?_cons_zero, List.getElem?_cons_succ, List.getElem_cons_zero, List.getElem_cons_succ, List.length_cons, List.length_nil, List.length_set, List.length_append, List.length_map, List.nil_append, List.cons_append, List.append_nil, List.set_set, Nat.reduceAdd, Nat.reduceLeDiff, Nat.reduceLT, Nat.reduceSub, true_and, and_true, Bool.not_true, Bool.not_false, decide_true, decide_false, Int.reduceToNat, Int.reducePow, Int.reduceNeg, Int.cast_ofNat_Int, decide_eq_true_eq, Nat.zero_add, Nat.add_zero, Int.toNat_natCast, Int.reduceLT, Int.reduceLE, Int.reduceBNe, Int.reduceEq, Int.natCast_add, Nat.le_refl]
    have e : tidy [] (.ref 1) [.lst (ns.map W.int), .lst [.ref 0, .int 0, .int 0, .int t]] = .ok (.ref 1) [.lst (ns.map W.int), .lst [.ref 0, .int 0, .int 0, .int t]] := by
      unfold tidy
      rw [if_pos ⟨Nat.zero_le _, fun i o hi => absurd hi (Nat.not_lt_zero _)⟩, if_neg (by unfold W.blw; exact Nat.not_lt_zero _)]
      simp only [List.getElem?_cons_succ, List.getElem?_cons_zero]
      rw [if_neg (by intro z; exact Nat.not_lt_zero _ (show 0 < 0 from (by have := blws_mem z (.ref 0) (by simp); unfold W.blw at this; exact this)))]
    rw [e]
    exact K t
theorem mod_rng (n m : Int) : 0 ≤ n % max m 1 ∧ n % max m 1 < max m 1 := ⟨Int.emod_nonneg _ (by omega), Int.emod_lt_of_pos _ (by omega)⟩
theorem draw_wp {k q p : Nat} {h : Hw} {m : Int} {Q : W → Hw → Prop} {E : Ex → Hw → Prop} (T : Tp q p h) (hm : m < 10000000000000000000000000000000000000000) (K : ∀ (r : Int) (o : O), 0 ≤ r → r < max m 1 → IsT q o → Q (.int r) (h.set p o)) : wp (PhiN ds (k + 1) 7 [.ref p, .int m] h) Q E := by
  obtain ⟨ns, e1⟩ := T.src
  obtain ⟨a, b, c, ha, e2⟩ := T.at_
  have hp := T.lt
  have hq := T.ltq
  have hne := T.ne
  refine go__law_draw ?_
  unfold s__law_draw
  try simp -implicitDefEqProofs -dsimp (disch := first | omega | (simp only [List.length_set, List.length_append, List.length_cons, List.length_nil, List.length_map]; omega)) only [↓wp_ok, ↓wp_err, ↓wp_exc, ↓wp_bind, ↓wp_var, ↓wp_cst, ↓wp_bin, ↓wp_neg, ↓wp_cmp, ↓wp_and, ↓wp_or, ↓wp_not, ↓wp_ite, ↓wp_tup, ↓wp_lst, ↓wp_idx, ↓wp_slc, ↓wp_call, ↓wp_bi, ↓wp_bl, ↓wp_mt, ↓wp_mk, ↓wp_lr1, ↓wp_lr2, ↓wp_aa, ↓wp_tr2, ↓wp_maxD, ↓wp_srt, ↓wp_glc, ↓wp_rgN, ↓wp_srtD, ↓wp_lc2, ↓wp_i3, ↓wp_iv, ↓mt_pp, ↓mt_ppA, ↓wp_esn, ↓wp_esc, ↓wp_pn, ↓wp_pa, ↓wp_tv, ↓wp_ta, ↓wp_to, ↓wp_tn, ↓wp_lo, ↓wp_ld, ↓wp_lc, ↓wp_tsn, ↓wp_tsc, ↓wp_io, ↓wp_i1, ↓wp_i2, ↓wp_iz, ↓wp_ie, ↓wo_some, ↓wo_none, ↓br_t, ↓br_f, ↓wps_ok, ↓wps_st, ↓wb_add, ↓wb_sub, ↓wb_mulR, ↓wb_mulL, ↓wb_div, ↓wb_mod, ↓wb_pow, ↓wb_addT, ↓wb_mulT, ↓wb_addL, ↓wb_mulLs, ↓wn_neg, ↓wc_eq, ↓wc_ne, ↓wc_lt, ↓wc_le, ↓wc_gt, ↓wc_ge, ↓wc_in, ↓wc_nin, ↓wc_isN, ↓wc_notN, ↓item_int, ↓sl_tup, ↓sl_ref, ↓bi_len, ↓bi_abs, ↓bi_int, ↓bi_intb, ↓bi_isI, ↓bi_max, ↓bi_min, ↓bi_divmod, ↓bi_lcm, ↓bi_gcd, ↓bl_sum, ↓bl_tuple, ↓bl_list, ↓bl_len, ↓bl_max, ↓bl_min, ↓mt_app, ↓mt_ext, ↓mt_ix, ↓setIt_ref, ↓ws_n, ↓ws_c, ↓ws_expr, ↓ws_asg, ↓ws_set, ↓ws_aug, ↓ws_augS, ↓ws_bad, ↓ws_if, ↓ws_for, ↓ws_whl, ↓ws_ret, ↓ws_retN, ↓ws_brk, ↓ws_cont, ↓ws_pass, ↓sq_n, ↓sq_b, ↓sq_c, ↓sq_r, ↓sq_z, ↓fin_ret, ↓fin_next, ↓fin_rz, ↓isTy_cv, ↓isTy_rt, ↓tr_cv, ↓tr_rt, look_z, look_s, rgW_rg, isNon_non, isNon_bl, isNon_int, isNon_str, isNon_tup, isNon_fl, isNon_ref, eqW_int, eqW_bl, tr_non, tr_bl, tr_int, tr_tup, ixN_in, ixN_neg, mtW_ref, seqOf_ref, seqOf_tup, seqOf_fl, seqOf_rt, seqOf_cv, isNon_rt, isNon_cv, isTup_rt, isTup_cv, guOf_rt, guOf_cv, isTy_rt, isTy_cv, cv_eq, rt_eq, asg_rt, asg_cv, asg_var, asg_tup2, asg_tup3, isTy, guOf, isTup, intW, aug_add, aug_sub, augO_a, augO_s, lstAt_z, lstAt_s, lstAt_al, lstAt_e, lstAt_ar, Nat.sub_self, Nat.add_sub_cancel_left, Nat.reduceSubDiff, List.append_assoc, lstAt_set, lstAt_ne, toInts_ints, toInts_nil, toInts_cons, toBls_nil, toBls_cons, Option.map_some, List.set_cons_succ, List.set_cons_zero, List.getElem?_cons_zero, List.getElem?_cons_succ, List.getElem_cons_zero, List.getElem_cons_succ, List.length_cons, List.length_nil, List.length_set, List.length_append, List.length_map, List.nil_append, List.cons_append, List.append_nil, List.set_set, Nat.reduceAdd, Nat.reduceLeDiff, Nat.reduceLT, Nat.reduceSub, true_and, and_true, Bool.not_true, Bool.not_false, decide_true, decide_false, Int.reduceToNat, Int.reducePow, Int.reduceNeg, Int.cast_ofNat_Int, decide_eq_true_eq, Nat.zero_add, Nat.add_zero, Int.toNat_natCast, Int.reduceLT, Int.reduceLE, Int.reduceBNe, Int.reduceEq, Int.natCast_add, Nat.le_refl, e1, e2]
  have tail : ∀ (ρ0 ρ1 : Option W) (a' n c' : Int), 0 ≤ a' → wps (evSs (PhiN ds k) (.cons (.asg (.var 2) (.idx (.var 0) (.cst (.int 2)))) (.cons (.set (.var 0) (.cst (.int 2)) (.bin .fdiv (.var 2) (.bi .max2 (.cons (.var 1) (.cons (.cst (.int 2)) .nil))))) (.cons (.ret (.bin .mod (.bi .toInt (.cons (.var 2) .nil)) (.bi .max2 (.cons (.var 1) (.cons (.cst (.int 1)) .nil))))) .nil))) [some (.ref p), some (.int m), ρ0, ρ1] (h.set p (.lst [.ref q, .int a', .int n, .int c']))) (fin h Q E) := by
    intro ρ0 ρ1 a' n c' ha'
    try simp -implicitDefEqProofs -dsimp (disch := first | omega | (simp only [List.length_set, List.length_append, List.length_cons, List.length_nil, List.length_map]; omega)) only [↓wp_ok, ↓wp_err, ↓wp_exc, ↓wp_bind, ↓wp_var, ↓wp_cst, ↓wp_bin, ↓wp_neg, ↓wp_cmp, ↓wp_and, ↓wp_or, ↓wp_not, ↓wp_ite, ↓wp_tup, ↓wp_lst, ↓wp_idx, ↓wp_slc, ↓wp_call, ↓wp_bi, ↓wp_bl, ↓wp_mt, ↓wp_mk, ↓wp_lr1, ↓wp_lr2, ↓wp_aa, ↓wp_tr2, ↓wp_maxD, ↓wp_srt, ↓wp_glc, ↓wp_rgN, ↓wp_srtD, ↓wp_lc2, ↓wp_i3, ↓wp_iv, ↓mt_pp, ↓mt_ppA, ↓wp_esn, ↓wp_esc, ↓wp_pn, ↓wp_pa, ↓wp_tv, ↓wp_ta, ↓wp_to, ↓wp_tn, ↓wp_lo, ↓wp_ld, ↓wp_lc, ↓wp_tsn, ↓wp_tsc, ↓wp_io, ↓wp_i1, ↓wp_i2, ↓wp_iz, ↓wp_ie, ↓wo_some, ↓wo_none, ↓br_t, ↓br_f, ↓wps_ok, ↓wps_st, ↓wb_add, ↓wb_sub, ↓wb_mulR, ↓wb_mulL, ↓wb_div, ↓wb_mod, ↓wb_pow, ↓wb_addT, ↓wb_mulT, ↓wb_addL, ↓wb_mulLs, ↓wn_neg, ↓wc_eq, ↓wc_ne, ↓wc_lt, ↓wc_le, ↓wc_gt, ↓wc_ge, ↓wc_in, ↓wc_nin, ↓wc_isN, ↓wc_notN, ↓item_int, ↓sl_tup, ↓sl_ref, ↓bi_len, ↓bi_abs, ↓bi_int, ↓bi_intb, ↓bi_isI, ↓bi_max, ↓bi_min, ↓bi_divmod, ↓bi_lcm, ↓bi_gcd, ↓bl_sum, ↓bl_tuple, ↓bl_list, ↓bl_len, ↓bl_max, ↓bl_min, ↓mt_app, ↓mt_ext, ↓mt_ix, ↓setIt_ref, ↓ws_n, ↓ws_c, ↓ws_expr, ↓ws_asg, ↓ws_set, ↓ws_aug, ↓ws_augS, ↓ws_bad, ↓ws_if, ↓ws_for, ↓ws_whl, ↓ws_ret, ↓ws_retN, ↓ws_brk, ↓ws_cont, ↓ws_pass, ↓sq_n, ↓sq_b, ↓sq_c, ↓sq_r, ↓sq_z, ↓fin_ret, ↓fin_next, ↓fin_rz, ↓isTy_cv, ↓isTy_rt, ↓tr_cv, ↓tr_rt, look_z, look_s, rgW_rg, isNon_non, isNon_bl, isNon_int, isNon_str, isNon_tup, isNon_fl, isNon_ref, eqW_int, eqW_bl, tr_non, tr_bl, tr_int, tr_tup, ixN_in, ixN_neg, mtW_ref, seqOf_ref, seqOf_tup, seqOf_fl, seqOf_rt, seqOf_cv, isNon_rt, isNon_cv, isTup_rt, isTup_cv, guOf_rt, guOf_cv, isTy_rt, isTy_cv, cv_eq, rt_eq, asg_rt, asg_cv, asg_var, asg_tup2, asg_tup3, isTy, guOf, isTup, intW, aug_add, aug_sub, augO_a, augO_s, lstAt_z, lstAt_s, lstAt_al, lstAt_e, lstAt_ar, Nat.sub_self, Nat.add_sub_cancel_left, Nat.reduceSubDiff, List.append_assoc, lstAt_set, lstAt_ne, toInts_ints, toInts_nil, toInts_cons, toBls_nil, toBls_cons, Option.map_some, List.set_cons_succ, List.set_cons_zero, List.getElem?_cons_zero, List.getElem?_cons_succ, List.getElem_cons_zero, List.getElem_cons_succ, List.length_cons, List.length_nil, List.length_set, List.length_append, List.length_map, List.nil_append, List.cons_append, List.append_nil, List.set_set, Nat.reduceAdd, Nat.reduceLeDiff, Nat.reduceLT, Nat.reduceSub, true_and, and_true, Bool.not_true, Bool.not_false, decide_true, decide_false, Int.reduceToNat, Int.reducePow, Int.reduceNeg, Int.cast_ofNat_Int, decide_eq_true_eq, Nat.zero_add, Nat.add_zero, Int.toNat_natCast, Int.reduceLT, Int.reduceLE, Int.reduceBNe, Int.reduceEq, Int.natCast_add, Nat.le_refl]
    rw [tidy_one (IsT.old (q := q) ⟨_, _, _, ha', rfl⟩ hq (Old.refl h)) blw_int]
    exact K _ _ (mod_rng n m).1 (mod_rng n m).2 ⟨_, _, _, ha', rfl⟩
  refine br_intro (fun hb => ?_) (fun hb => ?_)
  · subst hb
    have mid : ∀ (n c' : Int), wps (evSs (PhiN ds k) (.cons (.set (.var 0) (.cst (.int 1)) (.bin .add (.var 3) (.cst (.int 1)))) (.cons (.ifs (.val (.cmp .lt (.var 2) (.bin .pow (.cst (.int 10)) (.cst (.int 18))))) (.cons (.asg (.var 2) (.bin .mod (.bi .toInt (.cons (.bin .add (.bin .add (.bin .mul (.var 2) (.cst (.int 48271))) (.bin .mul (.var 3) (.cst (.int 69621)))) (.cst (.int 5))) (.nil))) (.cst (.int 2147483647)))) (.cons (.asg (.var 2) (.bin .mod (.bi .toInt (.cons (.bin .mul (.var 2) (.cst (.int 69621))) (.nil))) (.cst (.int 2147483629)))) (.cons (.ret (.bin .mod (.bi .toInt (.cons (.var 2) (.nil))) (.bi .max2 (.cons (.var 1) (.cons (.cst (.int 1)) (.nil)))))) (.nil)))) (.nil)) (.cons (.set (.var 0) (.cst (.int 2)) (.var 2)) (.nil)))) [some (.ref p), some (.int m), some (.int n), some (.int a)] (h.set p (.lst [.ref q, .int a, .int 0, .int c']))) (sq (PhiN ds k) (.cons (.asg (.var 2) (.idx (.var 0) (.cst (.int 2)))) (.cons (.set (.var 0) (.cst (.int 2)) (.bin .fdiv (.var 2) (.bi .max2 (.cons (.var 1) (.cons (.cst (.int 2)) .nil))))) (.cons (.ret (.bin .mod (.bi .toInt (.cons (.var 2) .nil)) (.bi .max2 (.cons (.var 1) (.cons (.cst (.int 1)) .nil))))) .nil))) (fin h Q E)) := by
      intro n c'
      try simp -implicitDefEqProofs -dsimp (disch := first | omega | (simp only [List.length_set, List.length_append, List.length_cons, List.length_nil, List.length_map]; omega)) only [↓wp_ok, ↓wp_err, ↓wp_exc, ↓wp_bind, ↓wp_var, ↓wp_cst, ↓wp_bin, ↓wp_neg, ↓wp_cmp, ↓wp_and, ↓wp_or, ↓wp_not, ↓wp_ite, ↓wp_tup, ↓wp_lst, ↓wp_idx, ↓wp_slc, ↓wp_call, ↓wp_bi, ↓wp_bl, ↓wp_mt, ↓wp_mk, ↓wp_lr1, ↓wp_lr2, ↓wp_aa, ↓wp_tr2, ↓wp_maxD, ↓wp_srt, ↓wp_glc, ↓wp_rgN, ↓wp_srtD, ↓wp_lc2, ↓wp_i3, ↓wp_iv, ↓mt_pp, ↓mt_ppA, ↓wp_esn, ↓wp_esc, ↓wp_pn, ↓wp_pa, ↓wp_tv, ↓wp_ta, ↓wp_to, ↓wp_tn, ↓wp_lo, ↓wp_ld, ↓wp_lc, ↓wp_tsn, ↓wp_tsc, ↓wp_io, ↓wp_i1, ↓wp_i2, ↓wp_iz, ↓wp_ie, ↓wo_some, ↓wo_none, ↓br_t, ↓br_f, ↓wps_ok, ↓wps_st, ↓wb_add, ↓wb_sub, ↓wb_mulR, ↓wb_mulL, ↓wb_div, ↓wb_mod, ↓wb_pow, ↓wb_addT, ↓wb_mulT, ↓wb_addL, ↓wb_mulLs, ↓wn_neg, ↓wc_eq, ↓wc_ne, ↓wc_lt, ↓wc_le, ↓wc_gt, ↓wc_ge, ↓wc_in, ↓wc_nin, ↓wc_isN, ↓wc_notN, ↓item_int, ↓sl_tup, ↓sl_ref, ↓bi_len, ↓bi_abs, ↓bi_int, ↓bi_intb, ↓bi_isI, ↓bi_max, ↓bi_min, ↓bi_divmod, ↓bi_lcm, ↓bi_gcd, ↓bl_sum, ↓bl_tuple, ↓bl_list, ↓bl_len, ↓bl_max, ↓bl_min, ↓mt_app, ↓mt_ext, ↓mt_ix, ↓setIt_ref, ↓ws_n, ↓ws_c, ↓ws_expr, ↓ws_asg, ↓ws_set, ↓ws_aug, ↓ws_augS, ↓ws_bad, ↓ws_if, ↓ws_for, ↓ws_whl, ↓ws_ret, ↓ws_retN, ↓ws_brk, ↓ws_cont, ↓ws_pass, ↓sq_n, ↓sq_b, ↓sq_c, ↓sq_r, ↓sq_z, ↓fin_ret, ↓fin_next, ↓fin_rz, ↓isTy_cv, ↓isTy_rt, ↓tr_cv, ↓tr_rt, look_z, look_s, rgW_rg, isNon_non, isNon_bl, isNon_int, isNon_str, isNon_tup, isNon_fl, isNon_ref, eqW_int, eqW_bl, tr_non, tr_bl, tr_int, tr_tup, ixN_in, ixN_neg, mtW_ref, seqOf_ref, seqOf_tup, seqOf_fl, seqOf_rt, seqOf_cv, isNon_rt, isNon_cv, isTup_rt, isTup_cv, guOf_rt, guOf_cv, isTy_rt, isTy_cv, cv_eq, rt_eq, asg_rt, asg_cv, asg_var, asg_tup2, asg_tup3, isTy, guOf, isTup, intW, aug_add, aug_sub, augO_a, augO_s, lstAt_z, lstAt_s, lstAt_al, lstAt_e, lstAt_ar, Nat.sub_self, Nat.add_sub_cancel_left, Nat.reduceSubDiff, List.append_assoc, lstAt_set, lstAt_ne, toInts_ints, toInts_nil, toInts_cons, toBls_nil, toBls_cons, Option.map_some, List.set_cons_succ, List.set_cons_zero, List.getElem?_cons_zero, List.getElem?_cons_succ, List.getElem_cons_zero, List.getElem_cons_succ, List.length_cons, List.length_nil, List.length_set, List.length_append, List.length_map, List.nil_append, List.cons_append, List.append_nil, List.set_set, Nat.reduceAdd, Nat.reduceLeDiff, Nat.reduceLT, Nat.reduceSub, true_and, and_true, Bool.not_true, Bool.not_false, decide_true, decide_false, Int.reduceToNat, Int.reducePow, Int.reduceNeg, Int.cast_ofNat_Int, decide_eq_true_eq, Nat.zero_add, Nat.add_zero, Int.toNat_natCast, Int.reduceLT, Int.reduceLE, Int.reduceBNe, Int.reduceEq, Int.natCast_add, Nat.le_refl]
      refine br_intro (fun hn => ?_) (fun hn => ?_)
      · try simp -implicitDefEqProofs -dsimp (disch := first | omega | (simp only [List.length_set, List.length_append, List.length_cons, List.length_nil, List.length_map]; omega)) only [↓wp_ok, ↓wp_err, ↓wp_exc, ↓wp_bind, ↓wp_var, ↓wp_cst, ↓wp_bin, ↓wp_neg, ↓wp_cmp, ↓wp_and, ↓wp_or, ↓wp_not, ↓wp_ite, ↓wp_tup, ↓wp_lst, ↓wp_idx, ↓wp_slc, ↓wp_call, ↓wp_bi, ↓wp_bl, ↓wp_mt, ↓wp_mk, ↓wp_lr1, ↓wp_lr2, ↓wp_aa, ↓wp_tr2, ↓wp_maxD, ↓wp_srt, ↓wp_glc, ↓wp_rgN, ↓wp_srtD, ↓wp_lc2, ↓wp_i3, ↓wp_iv, ↓mt_pp, ↓mt_ppA, ↓wp_esn, ↓wp_esc, ↓wp_pn, ↓wp_pa, ↓wp_tv, ↓wp_ta, ↓wp_to, ↓wp_tn, ↓wp_lo, ↓wp_ld, ↓wp_lc, ↓wp_tsn, ↓wp_tsc, ↓wp_io, ↓wp_i1, ↓wp_i2, ↓wp_iz, ↓wp_ie, ↓wo_some, ↓wo_none, ↓br_t, ↓br_f, ↓wps_ok, ↓wps_st, ↓wb_add, ↓wb_sub, ↓wb_mulR, ↓wb_mulL, ↓wb_div, ↓wb_mod, ↓wb_pow, ↓wb_addT, ↓wb_mulT, ↓wb_addL, ↓wb_mulLs, ↓wn_neg, ↓wc_eq, ↓wc_ne, ↓wc_lt, ↓wc_le, ↓wc_gt, ↓wc_ge, ↓wc_in, ↓wc_nin, ↓wc_isN, ↓wc_notN, ↓item_int, ↓sl_tup, ↓sl_ref, ↓bi_len, ↓bi_abs, ↓bi_int, ↓bi_intb, ↓bi_isI, ↓bi_max, ↓bi_min, ↓bi_divmod, ↓bi_lcm, ↓bi_gcd, ↓bl_sum, ↓bl_tuple, ↓bl_list, ↓bl_len, ↓bl_max, ↓bl_min, ↓mt_app, ↓mt_ext, ↓mt_ix, ↓setIt_ref, ↓ws_n, ↓ws_c, ↓ws_expr, ↓ws_asg, ↓ws_set, ↓ws_aug, ↓ws_augS, ↓ws_bad, ↓ws_if, ↓ws_for, ↓ws_whl, ↓ws_ret, ↓ws_retN, ↓ws_brk, ↓ws_cont, ↓ws_pass, ↓sq_n, ↓sq_b, ↓sq_c, ↓sq_r, ↓sq_z, ↓fin_ret, ↓fin_next, ↓fin_rz, ↓isTy_cv, ↓isTy_rt, ↓tr_cv, ↓tr_rt, look_z, look_s, rgW_rg, isNon_non, isNon_bl, isNon_int, isNon_str, isNon_tup, isNon_fl, isNon_ref, eqW_int, eqW_bl, tr_non, tr_bl, tr_int, tr_tup, ixN_in, ixN_neg, mtW_ref, seqOf_ref, seqOf_tup, seqOf_fl, seqOf_rt, seqOf_cv, isNon_rt, isNon_cv, isTup_rt, isTup_cv, guOf_rt, guOf_cv, isTy_rt, isTy_cv, cv_eq, rt_eq, asg_rt, asg_cv, asg_var, asg_tup2, asg_tup3, isTy, guOf, isTup, intW, aug_add, aug_sub, augO_a, augO_s, lstAt_z, lstAt_s, lstAt_al, lstAt_e, lstAt_ar, Nat.sub_self, Nat.add_sub_cancel_left, Nat.reduceSubDiff, List.append_assoc, lstAt_set, lstAt_ne, toInts_ints, toInts_nil, toInts_cons, toBls_nil, toBls_cons, Option.map_some, List.set_cons_succ, List.set_cons_zero, List.getElem?_cons_zero, List.getElem?_cons_succ, List.getElem_cons_zero, List.getElem_cons_succ, List.length_cons, List.length_nil, List.length_set, List.length_append, List.length_map, List.nil_append, List.cons_append, List.append_nil, List.set_set, Nat.reduceAdd, Nat.reduceLeDiff, Nat.reduceLT, Nat.reduceSub, true_and, and_true, Bool.not_true, Bool.not_false, decide_true, decide_false, Int.reduceToNat, Int.reducePow, Int.reduceNeg, Int.cast_ofNat_Int, decide_eq_true_eq, Nat.zero_add, Nat.add_zero, Int.toNat_natCast, Int.reduceLT, Int.reduceLE, Int.reduceBNe, Int.reduceEq, Int.natCast_add, Nat.le_refl]
        rw [tidy_one (IsT.old (q := q) ⟨a + 1, 0, c', by omega, rfl⟩ hq (Old.refl h)) blw_int]
        exact K _ _ (mod_rng _ m).1 (mod_rng _ m).2 ⟨_, _, _, by omega, rfl⟩
      · rw [ws_n, sq_n]
        have := tail (some (.int n)) (some (.int a)) (a + 1) n c' (by omega)
        try simp -implicitDefEqProofs -dsimp (disch := first | omega | (simp only [List.length_set, List.length_append, List.length_cons, List.length_nil, List.length_map]; omega)) only [↓wp_ok, ↓wp_err, ↓wp_exc, ↓wp_bind, ↓wp_var, ↓wp_cst, ↓wp_bin, ↓wp_neg, ↓wp_cmp, ↓wp_and, ↓wp_or, ↓wp_not, ↓wp_ite, ↓wp_tup, ↓wp_lst, ↓wp_idx, ↓wp_slc, ↓wp_call, ↓wp_bi, ↓wp_bl, ↓wp_mt, ↓wp_mk, ↓wp_lr1, ↓wp_lr2, ↓wp_aa, ↓wp_tr2, ↓wp_maxD, ↓wp_srt, ↓wp_glc, ↓wp_rgN, ↓wp_srtD, ↓wp_lc2, ↓wp_i3, ↓wp_iv, ↓mt_pp, ↓mt_ppA, ↓wp_esn, ↓wp_esc, ↓wp_pn, ↓wp_pa, ↓wp_tv, ↓wp_ta, ↓wp_to, ↓wp_tn, ↓wp_lo, ↓wp_ld, ↓wp_lc, ↓wp_tsn, ↓wp_tsc, ↓wp_io, ↓wp_i1, ↓wp_i2, ↓wp_iz, ↓wp_ie, ↓wo_some, ↓wo_none, ↓br_t, ↓br_f, ↓wps_ok, ↓wps_st, ↓wb_add, ↓wb_sub, ↓wb_mulR, ↓wb_mulL, ↓wb_div, ↓wb_mod, ↓wb_pow, ↓wb_addT, ↓wb_mulT, ↓wb_addL, ↓wb_mulLs, ↓wn_neg, ↓wc_eq, ↓wc_ne, ↓wc_lt, ↓wc_le, ↓wc_gt, ↓wc_ge, ↓wc_in, ↓wc_nin, ↓wc_isN, ↓wc_notN, ↓item_int, ↓sl_tup, ↓sl_ref, ↓bi_len, ↓bi_abs, ↓bi_int, ↓bi_intb, ↓bi_isI, ↓bi_max, ↓bi_min, ↓bi_divmod, ↓bi_lcm, ↓bi_gcd, ↓bl_sum, ↓bl_tuple, ↓bl_list, ↓bl_len, ↓bl_max, ↓bl_min, ↓mt_app, ↓mt_ext, ↓mt_ix, ↓setIt_ref, ↓ws_n, ↓ws_c, ↓ws_expr, ↓ws_asg, ↓ws_set, ↓ws_aug, ↓ws_augS, ↓ws_bad, ↓ws_if, ↓ws_for, ↓ws_whl, ↓ws_ret, ↓ws_retN, ↓ws_brk, ↓ws_cont, ↓ws_pass, ↓sq_n, ↓sq_b, ↓sq_c, ↓sq_r, ↓sq_z, ↓fin_ret, ↓fin_next, ↓fin_rz, ↓isTy_cv, ↓isTy_rt, ↓tr_cv, ↓tr_rt, look_z, look_s, rgW_rg, isNon_non, isNon_bl, isNon_int, isNon_str, isNon_tup, isNon_fl, isNon_ref, eqW_int, eqW_bl, tr_non, tr_bl, tr_int, tr_tup, ixN_in, ixN_neg, mtW_ref, seqOf_ref, seqOf_tup, seqOf_fl, seqOf_rt, seqOf_cv, isNon_rt, isNon_cv, isTup_rt, isTup_cv, guOf_rt, guOf_cv, isTy_rt, isTy_cv, cv_eq, rt_eq, asg_rt, asg_cv, asg_var, asg_tup2, asg_tup3, isTy, guOf, isTup, intW, aug_add, aug_sub, augO_a, augO_s, lstAt_z, lstAt_s, lstAt_al, lstAt_e, lstAt_ar, Nat.sub_self, Nat.add_sub_cancel_left, Nat.reduceSubDiff, List.append_assoc, lstAt_set, lstAt_ne, toInts_ints, toInts_nil, toInts_cons, toBls_nil, toBls_cons, Option.map_some, List.set_cons_succ, List.set_cons_zero, List.getElem?_cons_zero, List.getElem?_cons_succ, List.getElem_cons_zero, List.getElem_cons_succ, List.length_cons, List.length_nil, List.length_set, List.length_append, List.length_map, List.nil_append, List.cons_append, List.append_nil, List.set_set, Nat.reduceAdd, Nat.reduceLeDiff, Nat.reduceLT, Nat.reduceSub, true_and, and_true, Bool.not_true, Bool.not_false, decide_true, decide_false, Int.reduceToNat, Int.reducePow, Int.reduceNeg, Int.cast_ofNat_Int, decide_eq_true_eq, Nat.zero_add, Nat.add_zero, Int.toNat_natCast, Int.reduceLT, Int.reduceLE, Int.reduceBNe, Int.reduceEq, Int.natCast_add, Nat.le_refl]
        try simp -implicitDefEqProofs -dsimp (disch := first | omega | (simp only [List.length_set, List.length_append, List.length_cons, List.length_nil, List.length_map]; omega)) only [↓wp_ok, ↓wp_err, ↓wp_exc, ↓wp_bind, ↓wp_var, ↓wp_cst, ↓wp_bin, ↓wp_neg, ↓wp_cmp, ↓wp_and, ↓wp_or, ↓wp_not, ↓wp_ite, ↓wp_tup, ↓wp_lst, ↓wp_idx, ↓wp_slc, ↓wp_call, ↓wp_bi, ↓wp_bl, ↓wp_mt, ↓wp_mk, ↓wp_lr1, ↓wp_lr2, ↓wp_aa, ↓wp_tr2, ↓wp_maxD, ↓wp_srt, ↓wp_glc, ↓wp_rgN, ↓wp_srtD, ↓wp_lc2, ↓wp_i3, ↓wp_iv, ↓mt_pp, ↓mt_ppA, ↓wp_esn, ↓wp_esc, ↓wp_pn, ↓wp_pa, ↓wp_tv, ↓wp_ta, ↓wp_to, ↓wp_tn, ↓wp_lo, ↓wp_ld, ↓wp_lc, ↓wp_tsn, ↓wp_tsc, ↓wp_io, ↓wp_i1, ↓wp_i2, ↓wp_iz, ↓wp_ie, ↓wo_some, ↓wo_none, ↓br_t, ↓br_f, ↓wps_ok, ↓wps_st, ↓wb_add, ↓wb_sub, ↓wb_mulR, ↓wb_mulL, ↓wb_div, ↓wb_mod, ↓wb_pow, ↓wb_addT, ↓wb_mulT, ↓wb_addL, ↓wb_mulLs, ↓wn_neg, ↓wc_eq, ↓wc_ne, ↓wc_lt, ↓wc_le, ↓wc_gt, ↓wc_ge, ↓wc_in, ↓wc_nin, ↓wc_isN, ↓wc_notN, ↓item_int, ↓sl_tup, ↓sl_ref, ↓bi_len, ↓bi_abs, ↓bi_int, ↓bi_intb, ↓bi_isI, ↓bi_max, ↓bi_min, ↓bi_divmod, ↓bi_lcm, ↓bi_gcd, ↓bl_sum, ↓bl_tuple, ↓bl_list, ↓bl_len, ↓bl_max, ↓bl_min, ↓mt_app, ↓mt_ext, ↓mt_ix, ↓setIt_ref, ↓ws_n, ↓ws_c, ↓ws_expr, ↓ws_asg, ↓ws_set, ↓ws_aug, ↓ws_augS, ↓ws_bad, ↓ws_if, ↓ws_for, ↓ws_whl, ↓ws_ret, ↓ws_retN, ↓ws_brk, ↓ws_cont, ↓ws_pass, ↓sq_n, ↓sq_b, ↓sq_c, ↓sq_r, ↓sq_z, ↓fin_ret, ↓fin_next, ↓fin_rz, ↓isTy_cv, ↓isTy_rt, ↓tr_cv, ↓tr_rt, look_z, look_s, rgW_rg, isNon_non, isNon_bl, isNon_int, isNon_str, isNon_tup, isNon_fl, isNon_ref, eqW_int, eqW_bl, tr_non, tr_bl, tr_int, tr_tup, ixN_in, ixN_neg, mtW_ref, seqOf_ref, seqOf_tup, seqOf_fl, seqOf_rt, seqOf_cv, isNon_rt, isNon_cv, isTup_rt, isTup_cv, guOf_rt, guOf_cv, isTy_rt, isTy_cv, cv_eq, rt_eq, asg_rt, asg_cv, asg_var, asg_tup2, asg_tup3, isTy, guOf, isTup, intW, aug_add, aug_sub, augO_a, augO_s, lstAt_z, lstAt_s, lstAt_al, lstAt_e, lstAt_ar, Nat.sub_self, Nat.add_sub_cancel_left, Nat.reduceSubDiff, List.append_assoc, lstAt_set, lstAt_ne, toInts_ints, toInts_nil, toInts_cons, toBls_nil, toBls_cons, Option.map_some, List.set_cons_succ, List.set_cons_zero, List.getElem?_cons_zero, List.getElem?_cons_succ, List.getElem_cons_zero, List.getElem_cons_succ, List.length_cons, List.length_nil, List.length_set, List.length_append, List.length_map, List.nil_append, List.cons_append, List.append_nil, List.set_set, Nat.reduceAdd, Nat.reduceLeDiff, Nat.reduceLT, Nat.reduceSub, true_and, and_true, Bool.not_true, Bool.not_false, decide_true, decide_false, Int.reduceToNat, Int.reducePow, Int.reduceNeg, Int.cast_ofNat_Int, decide_eq_true_eq, Nat.zero_add, Nat.add_zero, Int.toNat_natCast, Int.reduceLT, Int.reduceLE, Int.reduceBNe, Int.reduceEq, Int.natCast_add, Nat.le_refl] at this
        exact this
    try simp -implicitDefEqProofs -dsimp (disch := first | omega | (simp only [List.length_set, List.length_append, List.length_cons, List.length_nil, List.length_map]; omega)) only [↓wp_ok, ↓wp_err, ↓wp_exc, ↓wp_bind, ↓wp_var, ↓wp_cst, ↓wp_bin, ↓wp_neg, ↓wp_cmp, ↓wp_and, ↓wp_or, ↓wp_not, ↓wp_ite, ↓wp_tup, ↓wp_lst, ↓wp_idx, ↓wp_slc, ↓wp_call, ↓wp_bi, ↓wp_bl, ↓wp_mt, ↓wp_mk, ↓wp_lr1, ↓wp_lr2, ↓wp_aa, ↓wp_tr2, ↓wp_maxD, ↓wp_srt, ↓wp_glc, ↓wp_rgN, ↓wp_srtD, ↓wp_lc2, ↓wp_i3, ↓wp_iv, ↓mt_pp, ↓mt_ppA, ↓wp_esn, ↓wp_esc, ↓wp_pn, ↓wp_pa, ↓wp_tv, ↓wp_ta, ↓wp_to, ↓wp_tn, ↓wp_lo, ↓wp_ld, ↓wp_lc, ↓wp_tsn, ↓wp_tsc, ↓wp_io, ↓wp_i1, ↓wp_i2, ↓wp_iz, ↓wp_ie, ↓wo_some, ↓wo_none, ↓br_t, ↓br_f, ↓wps_ok, ↓wps_st, ↓wb_add, ↓wb_sub, ↓wb_mulR, ↓wb_mulL, ↓wb_div, ↓wb_mod, ↓wb_pow, ↓wb_addT, ↓wb_mulT, ↓wb_addL, ↓wb_mulLs, ↓wn_neg, ↓wc_eq, ↓wc_ne, ↓wc_lt, ↓wc_le, ↓wc_gt, ↓wc_ge, ↓wc_in, ↓wc_nin, ↓wc_isN, ↓wc_notN, ↓item_int, ↓sl_tup, ↓sl_ref, ↓bi_len, ↓bi_abs, ↓bi_int, ↓bi_intb, ↓bi_isI, ↓bi_max, ↓bi_min, ↓bi_divmod, ↓bi_lcm, ↓bi_gcd, ↓bl_sum, ↓bl_tuple, ↓bl_list, ↓bl_len, ↓bl_max, ↓bl_min, ↓mt_app, ↓mt_ext, ↓mt_ix, ↓setIt_ref, ↓ws_n, ↓ws_c, ↓ws_expr, ↓ws_asg, ↓ws_set, ↓ws_aug, ↓ws_augS, ↓ws_bad, ↓ws_if, ↓ws_for, ↓ws_whl, ↓ws_ret, ↓ws_retN, ↓ws_brk, ↓ws_cont, ↓ws_pass, ↓sq_n, ↓sq_b, ↓sq_c, ↓sq_r, ↓sq_z, ↓fin_ret, ↓fin_next, ↓fin_rz, ↓isTy_cv, ↓isTy_rt, ↓tr_cv, ↓tr_rt, look_z, look_s, rgW_rg, isNon_non, isNon_bl, isNon_int, isNon_str, isNon_tup, isNon_fl, isNon_ref, eqW_int, eqW_bl, tr_non, tr_bl, tr_int, tr_tup, ixN_in, ixN_neg, mtW_ref, seqOf_ref, seqOf_tup, seqOf_fl, seqOf_rt, seqOf_cv, isNon_rt, isNon_cv, isTup_rt, isTup_cv, guOf_rt, guOf_cv, isTy_rt, isTy_cv, cv_eq, rt_eq, asg_rt, asg_cv, asg_var, asg_tup2, asg_tup3, isTy, guOf, isTup, intW, aug_add, aug_sub, augO_a, augO_s, lstAt_z, lstAt_s, lstAt_al, lstAt_e, lstAt_ar, Nat.sub_self, Nat.add_sub_cancel_left, Nat.reduceSubDiff, List.append_assoc, lstAt_set, lstAt_ne, toInts_ints, toInts_nil, toInts_cons, toBls_nil, toBls_cons, Option.map_some, List.set_cons_succ, List.set_cons_zero, List.getElem?_cons_zero, List.getElem?_cons_succ, List.getElem_cons_zero, List.getElem_cons_succ, List.length_cons, List.length_nil, List.length_set, List.length_append, List.length_map, List.nil_append, List.cons_append, List.append_nil, List.set_set, Nat.reduceAdd, Nat.reduceLeDiff, Nat.reduceLT, Nat.reduceSub, true_and, and_true, Bool.not_true, Bool.not_false, decide_true, decide_false, Int.reduceToNat, Int.reducePow, Int.reduceNeg, Int.cast_ofNat_Int, decide_eq_true_eq, Nat.zero_add, Nat.add_zero, Int.toNat_natCast, Int.reduceLT, Int.reduceLE, Int.reduceBNe, Int.reduceEq, Int.natCast_add, Nat.le_refl, e1, e2]
    refine br_intro (fun hl => ?_) (fun hl => ?_)
    · have e5 := List.getElem?_eq_getElem (l := ns) (i := a.toNat) (by omega)
      try simp -implicitDefEqProofs -dsimp (disch := first | omega | (simp only [List.length_set, List.length_append, List.length_cons, List.length_nil, List.length_map]; omega)) only [↓wp_ok, ↓wp_err, ↓wp_exc, ↓wp_bind, ↓wp_var, ↓wp_cst, ↓wp_bin, ↓wp_neg, ↓wp_cmp, ↓wp_and, ↓wp_or, ↓wp_not, ↓wp_ite, ↓wp_tup, ↓wp_lst, ↓wp_idx, ↓wp_slc, ↓wp_call, ↓wp_bi, ↓wp_bl, ↓wp_mt, ↓wp_mk, ↓wp_lr1, ↓wp_lr2, ↓wp_aa, ↓wp_tr2, ↓wp_maxD, ↓wp_srt, ↓wp_glc, ↓wp_rgN, ↓wp_srtD, ↓wp_lc2, ↓wp_i3, ↓wp_iv, ↓mt_pp, ↓mt_ppA, ↓wp_esn, ↓wp_esc, ↓wp_pn, ↓wp_pa, ↓wp_tv, ↓wp_ta, ↓wp_to, ↓wp_tn, ↓wp_lo, ↓wp_ld, ↓wp_lc, ↓wp_tsn, ↓wp_tsc, ↓wp_io, ↓wp_i1, ↓wp_i2, ↓wp_iz, ↓wp_ie, ↓wo_some, ↓wo_none, ↓br_t, ↓br_f, ↓wps_ok, ↓wps_st, ↓wb_add, ↓wb_sub, ↓wb_mulR, ↓wb_mulL, ↓wb_div, ↓wb_mod, ↓wb_pow, ↓wb_addT, ↓wb_mulT, ↓wb_addL, ↓wb_mulLs, ↓wn_neg, ↓wc_eq, ↓wc_ne, ↓wc_lt, ↓wc_le, ↓wc_gt, ↓wc_ge, ↓wc_in, ↓wc_nin, ↓wc_isN, ↓wc_notN, ↓item_int, ↓sl_tup, ↓sl_ref, ↓bi_len, ↓bi_abs, ↓bi_int, ↓bi_intb, ↓bi_isI, ↓bi_max, ↓bi_min, ↓bi_divmod, ↓bi_lcm, ↓bi_gcd, ↓bl_sum, ↓bl_tuple, ↓bl_list, ↓bl_len, ↓bl_max, ↓bl_min, ↓mt_app, ↓mt_ext, ↓mt_ix, ↓setIt_ref, ↓ws_n, ↓ws_c, ↓ws_expr, ↓ws_asg, ↓ws_set, ↓ws_aug, ↓ws_augS, ↓ws_bad, ↓ws_if, ↓ws_for, ↓ws_whl, ↓ws_ret, ↓ws_retN, ↓ws_brk, ↓ws_cont, ↓ws_pass, ↓sq_n, ↓sq_b, ↓sq_c, ↓sq_r, ↓sq_z, ↓fin_ret, ↓fin_next, ↓fin_rz, ↓isTy_cv, ↓isTy_rt, ↓tr_cv, ↓tr_rt, look_z, look_s, rgW_rg, isNon_non, isNon_bl, isNon_int, isNon_str, isNon_tup, isNon_fl, isNon_ref, eqW_int, eqW_bl, tr_non, tr_bl, tr_int, tr_tup, ixN_in, ixN_neg, mtW_ref, seqOf_ref, seqOf_tup, seqOf_fl, seqOf_rt, seqOf_cv, isNon_rt, isNon_cv, isTup_rt, isTup_cv, guOf_rt, guOf_cv, isTy_rt, isTy_cv, cv_eq, rt_eq, asg_rt, asg_cv, asg_var, asg_tup2, asg_tup3, isTy, guOf, isTup, intW, aug_add, aug_sub, augO_a, augO_s, lstAt_z, lstAt_s, lstAt_al, lstAt_e, lstAt_ar, Nat.sub_self, Nat.add_sub_cancel_left, Nat.reduceSubDiff, List.append_assoc, lstAt_set, lstAt_ne, toInts_ints, toInts_nil, toInts_cons, toBls_nil, toBls_cons, Option.map_some, List.set_cons_succ, List.set_cons_zero, List.getElem?_cons_zero, List.getElem?_cons_succ, List.getElem_cons_zero, List.getElem_cons_succ, List.length_cons, List.length_nil, List.length_set, List.length_append, List.length_map, List.nil_append, List.cons_append, List.append_nil, List.set_set, Nat.reduceAdd, Nat.reduceLeDiff, Nat.reduceLT, Nat.reduceSub, true_and, and_true, Bool.not_true, Bool.not_false, decide_true, decide_false, Int.reduceToNat, Int.reducePow, Int.reduceNeg, Int.cast_ofNat_Int, decide_eq_true_eq, Nat.zero_add, Nat.add_zero, Int.toNat_natCast, Int.reduceLT, Int.reduceLE, Int.reduceBNe, Int.reduceEq, Int.natCast_add, Nat.le_refl, e1, e2, List.getElem?_map, e5]
      have := mid (if ns[a.toNat]'(by omega) < 0 then -(ns[a.toNat]'(by omega)) else ns[a.toNat]'(by omega)) c
      have e3 : h.set p (.lst [.ref q, .int a, .int 0, .int c]) = h := by
        have := lstAt_get e2
        rw [List.getElem?_eq_some_iff] at this
        obtain ⟨h1, h2⟩ := this
        rw [← h2, List.set_getElem_self]
      rw [e3] at this
      try simp -implicitDefEqProofs -dsimp (disch := first | omega | (simp only [List.length_set, List.length_append, List.length_cons, List.length_nil, List.length_map]; omega)) only [↓wp_ok, ↓wp_err, ↓wp_exc, ↓wp_bind, ↓wp_var, ↓wp_cst, ↓wp_bin, ↓wp_neg, ↓wp_cmp, ↓wp_and, ↓wp_or, ↓wp_not, ↓wp_ite, ↓wp_tup, ↓wp_lst, ↓wp_idx, ↓wp_slc, ↓wp_call, ↓wp_bi, ↓wp_bl, ↓wp_mt, ↓wp_mk, ↓wp_lr1, ↓wp_lr2, ↓wp_aa, ↓wp_tr2, ↓wp_maxD, ↓wp_srt, ↓wp_glc, ↓wp_rgN, ↓wp_srtD, ↓wp_lc2, ↓wp_i3, ↓wp_iv, ↓mt_pp, ↓mt_ppA, ↓wp_esn, ↓wp_esc, ↓wp_pn, ↓wp_pa, ↓wp_tv, ↓wp_ta, ↓wp_to, ↓wp_tn, ↓wp_lo, ↓wp_ld, ↓wp_lc, ↓wp_tsn, ↓wp_tsc, ↓wp_io, ↓wp_i1, ↓wp_i2, ↓wp_iz, ↓wp_ie, ↓wo_some, ↓wo_none, ↓br_t, ↓br_f, ↓wps_ok, ↓wps_st, ↓wb_add, ↓wb_sub, ↓wb_mulR, ↓wb_mulL, ↓wb_div, ↓wb_mod, ↓wb_pow, ↓wb_addT, ↓wb_mulT, ↓wb_addL, ↓wb_mulLs, ↓wn_neg, ↓wc_eq, ↓wc_ne, ↓wc_lt, ↓wc_le, ↓wc_gt, ↓wc_ge, ↓wc_in, ↓wc_nin, ↓wc_isN, ↓wc_notN, ↓item_int, ↓sl_tup, ↓sl_ref, ↓bi_len, ↓bi_abs, ↓bi_int, ↓bi_intb, ↓bi_isI, ↓bi_max, ↓bi_min, ↓bi_divmod, ↓bi_lcm, ↓bi_gcd, ↓bl_sum, ↓bl_tuple, ↓bl_list, ↓bl_len, ↓bl_max, ↓bl_min, ↓mt_app, ↓mt_ext, ↓mt_ix, ↓setIt_ref, ↓ws_n, ↓ws_c, ↓ws_expr, ↓ws_asg, ↓ws_set, ↓ws_aug, ↓ws_augS, ↓ws_bad, ↓ws_if, ↓ws_for, ↓ws_whl, ↓ws_ret, ↓ws_retN, ↓ws_brk, ↓ws_cont, ↓ws_pass, ↓sq_n, ↓sq_b, ↓sq_c, ↓sq_r, ↓sq_z, ↓fin_ret, ↓fin_next, ↓fin_rz, ↓isTy_cv, ↓isTy_rt, ↓tr_cv, ↓tr_rt, look_z, look_s, rgW_rg, isNon_non, isNon_bl, isNon_int, isNon_str, isNon_tup, isNon_fl, isNon_ref, eqW_int, eqW_bl, tr_non, tr_bl, tr_int, tr_tup, ixN_in, ixN_neg, mtW_ref, seqOf_ref, seqOf_tup, seqOf_fl, seqOf_rt, seqOf_cv, isNon_rt, isNon_cv, isTup_rt, isTup_cv, guOf_rt, guOf_cv, isTy_rt, isTy_cv, cv_eq, rt_eq, asg_rt, asg_cv, asg_var, asg_tup2, asg_tup3, isTy, guOf, isTup, intW, aug_add, aug_sub, augO_a, augO_s, lstAt_z, lstAt_s, lstAt_al, lstAt_e, lstAt_ar, Nat.sub_self, Nat.add_sub_cancel_left, Nat.reduceSubDiff, List.append_assoc, lstAt_set, lstAt_ne, toInts_ints, toInts_nil, toInts_cons, toBls_nil, toBls_cons, Option.map_some, List.set_cons_succ, List.set_cons_zero, List.getElem?_cons_zero, List.getElem?_cons_succ, List.getElem_cons_zero, List.getElem_cons_succ, List.length_cons, List.length_nil, List.length_set, List.length_append, List.length_map, List.nil_append, List.cons_append, List.append_nil, List.set_set, Nat.reduceAdd, Nat.reduceLeDiff, Nat.reduceLT, Nat.reduceSub, true_and, and_true, Bool.not_true, Bool.not_false, decide_true, decide_false, Int.reduceToNat, Int.reducePow, Int.reduceNeg, Int.cast_ofNat_Int, decide_eq_true_eq, Nat.zero_add, Nat.add_zero, Int.toNat_natCast, Int.reduceLT, Int.reduceLE, Int.reduceBNe, Int.reduceEq, Int.natCast_add, Nat.le_refl, e2] at this
      exact this
    · try simp -implicitDefEqProofs -dsimp (disch := first | omega | (simp only [List.length_set, List.length_append, List.length_cons, List.length_nil, List.length_map]; omega)) only [↓wp_ok, ↓wp_err, ↓wp_exc, ↓wp_bind, ↓wp_var, ↓wp_cst, ↓wp_bin, ↓wp_neg, ↓wp_cmp, ↓wp_and, ↓wp_or, ↓wp_not, ↓wp_ite, ↓wp_tup, ↓wp_lst, ↓wp_idx, ↓wp_slc, ↓wp_call, ↓wp_bi, ↓wp_bl, ↓wp_mt, ↓wp_mk, ↓wp_lr1, ↓wp_lr2, ↓wp_aa, ↓wp_tr2, ↓wp_maxD, ↓wp_srt, ↓wp_glc, ↓wp_rgN, ↓wp_srtD, ↓wp_lc2, ↓wp_i3, ↓wp_iv, ↓mt_pp, ↓mt_ppA, ↓wp_esn, ↓wp_esc, ↓wp_pn, ↓wp_pa, ↓wp_tv, ↓wp_ta, ↓wp_to, ↓wp_tn, ↓wp_lo, ↓wp_ld, ↓wp_lc, ↓wp_tsn, ↓wp_tsc, ↓wp_io, ↓wp_i1, ↓wp_i2, ↓wp_iz, ↓wp_ie, ↓wo_some, ↓wo_none, ↓br_t, ↓br_f, ↓wps_ok, ↓wps_st, ↓wb_add, ↓wb_sub, ↓wb_mulR, ↓wb_mulL, ↓wb_div, ↓wb_mod, ↓wb_pow, ↓wb_addT, ↓wb_mulT, ↓wb_addL, ↓wb_mulLs, ↓wn_neg, ↓wc_eq, ↓wc_ne, ↓wc_lt, ↓wc_le, ↓wc_gt, ↓wc_ge, ↓wc_in, ↓wc_nin, ↓wc_isN, ↓wc_notN, ↓item_int, ↓sl_tup, ↓sl_ref, ↓bi_len, ↓bi_abs, ↓bi_int, ↓bi_intb, ↓bi_isI, ↓bi_max, ↓bi_min, ↓bi_divmod, ↓bi_lcm, ↓bi_gcd, ↓bl_sum, ↓bl_tuple, ↓bl_list, ↓bl_len, ↓bl_max, ↓bl_min, ↓mt_app, ↓mt_ext, ↓mt_ix, ↓setIt_ref, ↓ws_n, ↓ws_c, ↓ws_expr, ↓ws_asg, ↓ws_set, ↓ws_aug, ↓ws_augS, ↓ws_bad, ↓ws_if, ↓ws_for, ↓ws_whl, ↓ws_ret, ↓ws_retN, ↓ws_brk, ↓ws_cont, ↓ws_pass, ↓sq_n, ↓sq_b, ↓sq_c, ↓sq_r, ↓sq_z, ↓fin_ret, ↓fin_next, ↓fin_rz, ↓isTy_cv, ↓isTy_rt, ↓tr_cv, ↓tr_rt, look_z, look_s, rgW_rg, isNon_non, isNon_bl, isNon_int, isNon_str, isNon_tup, isNon_fl, isNon_ref, eqW_int, eqW_bl, tr_non, tr_bl, tr_int, tr_tup, ixN_in, ixN_neg, mtW_ref, seqOf_ref, seqOf_tup, seqOf_fl, seqOf_rt, seqOf_cv, isNon_rt, isNon_cv, isTup_rt, isTup_cv, guOf_rt, guOf_cv, isTy_rt, isTy_cv, cv_eq, rt_eq, asg_rt, asg_cv, asg_var, asg_tup2, asg_tup3, isTy, guOf, isTup, intW, aug_add, aug_sub, augO_a, augO_s, lstAt_z, lstAt_s, lstAt_al, lstAt_e, lstAt_ar, Nat.sub_self, Nat.add_sub_cancel_left, Nat.reduceSubDiff, List.append_assoc, lstAt_set, lstAt_ne, toInts_ints, toInts_nil, toInts_cons, toBls_nil, toBls_cons, Option.map_some, List.set_cons_succ, List.set_cons_zero, List.getElem?_cons_zero, List.getElem?_cons_succ, List.getElem_cons_zero, List.getElem_cons_succ, List.length_cons, List.length_nil, List.length_set, List.length_append, List.length_map, List.nil_append, List.cons_append, List.append_nil, List.set_set, Nat.reduceAdd, Nat.reduceLeDiff, Nat.reduceLT, Nat.reduceSub, true_and, and_true, Bool.not_true, Bool.not_false, decide_true, decide_false, Int.reduceToNat, Int.reducePow, Int.reduceNeg, Int.cast_ofNat_Int, decide_eq_true_eq, Nat.zero_add, Nat.add_zero, Int.toNat_natCast, Int.reduceLT, Int.reduceLE, Int.reduceBNe, Int.reduceEq, Int.natCast_add, Nat.le_refl, e1, e2]
      have := mid (((c * 48271 + a + 1) % 2147483647)) ((c * 48271 + a + 1) % 2147483647)
      try simp -implicitDefEqProofs -dsimp (disch := first | omega | (simp only [List.length_set, List.length_append, List.length_cons, List.length_nil, List.length_map]; omega)) only [↓wp_ok, ↓wp_err, ↓wp_exc, ↓wp_bind, ↓wp_var, ↓wp_cst, ↓wp_bin, ↓wp_neg, ↓wp_cmp, ↓wp_and, ↓wp_or, ↓wp_not, ↓wp_ite, ↓wp_tup, ↓wp_lst, ↓wp_idx, ↓wp_slc, ↓wp_call, ↓wp_bi, ↓wp_bl, ↓wp_mt, ↓wp_mk, ↓wp_lr1, ↓wp_lr2, ↓wp_aa, ↓wp_tr2, ↓wp_maxD, ↓wp_srt, ↓wp_glc, ↓wp_rgN, ↓wp_srtD, ↓wp_lc2, ↓wp_i3, ↓wp_iv, ↓mt_pp, ↓mt_ppA, ↓wp_esn, ↓wp_esc, ↓wp_pn, ↓wp_pa, ↓wp_tv, ↓wp_ta, ↓wp_to, ↓wp_tn, ↓wp_lo, ↓wp_ld, ↓wp_lc, ↓wp_tsn, ↓wp_tsc, ↓wp_io, ↓wp_i1, ↓wp_i2, ↓wp_iz, ↓wp_ie, ↓wo_some, ↓wo_none, ↓br_t, ↓br_f, ↓wps_ok, ↓wps_st, ↓wb_add, ↓wb_sub, ↓wb_mulR, ↓wb_mulL, ↓wb_div, ↓wb_mod, ↓wb_pow, ↓wb_addT, ↓wb_mulT, ↓wb_addL, ↓wb_mulLs, ↓wn_neg, ↓wc_eq, ↓wc_ne, ↓wc_lt, ↓wc_le, ↓wc_gt, ↓wc_ge, ↓wc_in, ↓wc_nin, ↓wc_isN, ↓wc_notN, ↓item_int, ↓sl_tup, ↓sl_ref, ↓bi_len, ↓bi_abs, ↓bi_int, ↓bi_intb, ↓bi_isI, ↓bi_max, ↓bi_min, ↓bi_divmod, ↓bi_lcm, ↓bi_gcd, ↓bl_sum, ↓bl_tuple, ↓bl_list, ↓bl_len, ↓bl_max, ↓bl_min, ↓mt_app, ↓mt_ext, ↓mt_ix, ↓setIt_ref, ↓ws_n, ↓ws_c, ↓ws_expr, ↓ws_asg, ↓ws_set, ↓ws_aug, ↓ws_augS, ↓ws_bad, ↓ws_if, ↓ws_for, ↓ws_whl, ↓ws_ret, ↓ws_retN, ↓ws_brk, ↓ws_cont, ↓ws_pass, ↓sq_n, ↓sq_b, ↓sq_c, ↓sq_r, ↓sq_z, ↓fin_ret, ↓fin_next, ↓fin_rz, ↓isTy_cv, ↓isTy_rt, ↓tr_cv, ↓tr_rt, look_z, look_s, rgW_rg, isNon_non, isNon_bl, isNon_int, isNon_str, isNon_tup, isNon_fl, isNon_ref, eqW_int, eqW_bl, tr_non, tr_bl, tr_int, tr_tup, ixN_in, ixN_neg, mtW_ref, seqOf_ref, seqOf_tup, seqOf_fl, seqOf_rt, seqOf_cv, isNon_rt, isNon_cv, isTup_rt, isTup_cv, guOf_rt, guOf_cv, isTy_rt, isTy_cv, cv_eq, rt_eq, asg_rt, asg_cv, asg_var, asg_tup2, asg_tup3, isTy, guOf, isTup, intW, aug_add, aug_sub, augO_a, augO_s, lstAt_z, lstAt_s, lstAt_al, lstAt_e, lstAt_ar, Nat.sub_self, Nat.add_sub_cancel_left, Nat.reduceSubDiff, List.append_assoc, lstAt_set, lstAt_ne, toInts_ints, toInts_nil, toInts_cons, toBls_nil, toBls_cons, Option.map_some, List.set_cons_succ, List.set_cons_zero, List.getElem?_cons_zero, List.getElem?_cons_succ, List.getElem_cons_zero, List.getElem_cons_succ, List.length_cons, List.length_nil, List.length_set, List.length_append, List.length_map, List.nil_append, List.cons_append, List.append_nil, List.set_set, Nat.reduceAdd, Nat.reduceLeDiff, Nat.reduceLT, Nat.reduceSub, true_and, and_true, Bool.not_true, Bool.not_false, decide_true, decide_false, Int.reduceToNat, Int.reducePow, Int.reduceNeg, Int.cast_ofNat_Int, decide_eq_true_eq, Nat.zero_add, Nat.add_zero, Int.toNat_natCast, Int.reduceLT, Int.reduceLE, Int.reduceBNe, Int.reduceEq, Int.natCast_add, Nat.le_refl] at this
      exact this
  · rw [ws_n, sq_n]
    have := tail none none a b c ha
    have e3 : h.set p (.lst [.ref q, .int a, .int b, .int c]) = h := by
      have := lstAt_get e2
      rw [List.getElem?_eq_some_iff] at this
      obtain ⟨h1, h2⟩ := this
      rw [← h2, List.set_getElem_self]
    rw [e3] at this
    exact this
/-- from h on: the tape moves, all else of h stands -/
structure Fr (q p : Nat) (h g : Hw) : Prop where
  len : h.length ≤ g.length
  same : ∀ i, i < h.length → p ≠ i → g[i]? = h[i]?
  tp : Tp q p g
theorem Fr.refl {q p : Nat} {h : Hw} (t : Tp q p h) : Fr q p h h := ⟨Nat.le_refl _, fun _ _ _ => rfl, t⟩
theorem Fr.trans {q p : Nat} {h g g' : Hw} (a : Fr q p h g) (b : Fr q p g g') : Fr q p h g' := ⟨Nat.le_trans a.len b.len, fun i hi hp => (b.same i (Nat.lt_of_lt_of_le hi a.len) hp).trans (a.same i hi hp), b.tp⟩
theorem Fr.app {q p : Nat} {h g : Hw} (a : Fr q p h g) (t : Hw) : Fr q p h (g ++ t) := by
  refine a.trans ⟨by simp, fun i hi _ => List.getElem?_append_left hi, a.tp.app t⟩
theorem Fr.put {q p : Nat} {h g : Hw} (a : Fr q p h g) {i : Nat} {o : O} (hi : h.length ≤ i) (T : Tp q p h) : Fr q p h (g.set i o) := by
  refine ⟨by rw [List.length_set]; exact a.len, fun j hj hp => ?_, ?_⟩
  · rw [List.getElem?_set_ne (by omega)]; exact a.same j hj hp
  · obtain ⟨ns, e⟩ := a.tp.src
    obtain ⟨x, y, z, hx, e2⟩ := a.tp.at_
    have := T.lt
    have := T.ltq
    exact ⟨T.ne, ⟨ns, by rw [lstAt_ne (by omega)]; exact e⟩, x, y, z, hx, by rw [lstAt_ne (by omega)]; exact e2⟩
theorem Fr.lst {q p : Nat} {h g : Hw} (a : Fr q p h g) {i : Nat} (hi : i < h.length) (hp : p ≠ i) : lstAt g i = lstAt h i := by
  unfold lstAt; rw [a.same i hi hp]
theorem Fr.old {q p : Nat} {h g : Hw} (a : Fr q p h g) (T : Tp q p h) : OldOk h g := by
  refine ⟨a.len, fun i o hi e => ?_⟩
  by_cases c : p = i
  · subst c
    obtain ⟨x, y, z, hx, e2⟩ := a.tp.at_
    rw [lstAt_get e2] at e
    cases e
    exact .inr (blws_cons (blw_ref T.ltq) (blws_cons blw_int (blws_cons blw_int (blws_cons blw_int blws_nil))))
  · rw [a.same i hi c] at e; exact .inl e
theorem Fr.cut {q p : Nat} {h g : Hw} (a : Fr q p h g) (T : Tp q p h) : Fr q p h (g.take h.length) ∧ (g.take h.length).length = h.length := by
  have hl : (g.take h.length).length = h.length := by rw [List.length_take]; exact Nat.min_eq_left a.len
  have ls : ∀ i, i < h.length → lstAt (g.take h.length) i = lstAt g i := fun i hi => by unfold lstAt; rw [List.getElem?_take_of_lt hi]
  refine ⟨⟨by omega, fun i hi hp => by rw [List.getElem?_take_of_lt hi]; exact a.same i hi hp, ?_⟩, hl⟩
  obtain ⟨ns, e⟩ := a.tp.src
  obtain ⟨x, y, z, hx, e2⟩ := a.tp.at_
  exact ⟨T.ne, ⟨ns, by rw [ls _ T.ltq]; exact e⟩, x, y, z, hx, by rw [ls _ T.lt]; exact e2⟩
theorem tidy_fr {q p : Nat} {h g : Hw} {w : W} {Q : W → Hw → Prop} {E : Ex → Hw → Prop} (a : Fr q p h g) (T : Tp q p h) (b : w.blw h.length) (K : ∀ g', Fr q p h g' → g'.length = h.length → Q w g') : wp (tidy h w g) Q E := by
  unfold tidy
  rw [if_pos (a.old T), if_pos b]
  exact K _ (a.cut T).1 (a.cut T).2
theorem draw2 {k q p : Nat} {h : Hw} {m : Int} {Q : W → Hw → Prop} {E : Ex → Hw → Prop} (T : Tp q p h) (hm : m < 10000000000000000000000000000000000000000) (K : ∀ (r : Int) (h' : Hw), 0 ≤ r → r < max m 1 → Fr q p h h' → h'.length = h.length → Q (.int r) h') : wp (PhiN ds (k + 1) 7 [.ref p, .int m] h) Q E :=
  draw_wp T hm fun r o h1 h2 h3 => K r _ h1 h2 ⟨by simp, fun i _ hp => List.getElem?_set_ne hp, T.set h3⟩ (by simp)
theorem draw' {k q p : Nat} {h : Hw} {m : Int} {Q : W → Hw → Prop} {E : Ex → Hw → Prop} (T : Tp q p h) (hm : m < 10000000000000000000000000000000000000000) (K : ∀ (r : Int) (h' : Hw), 0 ≤ r → r < max m 1 → Tp q p h' → h'.length = h.length → (∀ i, p ≠ i → lstAt h' i = lstAt h i) → Q (.int r) h') : wp (PhiN ds (k + 1) 7 [.ref p, .int m] h) Q E :=
  draw_wp T hm fun r o h1 h2 h3 => K r _ h1 h2 (T.set h3) (by simp) (fun i hi => lstAt_ne hi)
/-- a comprehension of drawn numbers -/
theorem comp_ints {q p n : Nat} {h : Hw} {lo : Int} {g : IG} {test : En → Hw → Res Bool} {elt : En → Hw → Res W} {own : List Nat} {ρ : En} {Q : List W → Hw → Prop} {E : Ex → Hw → Prop} (P : Int → Prop) (T : Tp q p h) (hn : n < 16777216)
    (step : ∀ (i : Nat) (g' : Hw), i < n → Tp q p g' → g'.length = h.length → wo (asg g (.int (lo + (i : Int))) (wipe ρ own)) fun ρ' => wp (test ρ' g') (fun k g1 => br k (wp (elt ρ' g1) (fun y g2 => ∃ r : Int, y = .int r ∧ P r ∧ Fr q p g' g2 ∧ g2.length = g'.length) noE) False) noE)
    (K : ∀ (ns : List Int) (h' : Hw), ns.length = n → (∀ x ∈ ns, P x) → Fr q p h h' → h'.length = h.length → Q (ns.map W.int) h') : wp (compL g [] test elt own ρ (rng lo n) h []) Q E := by
  refine wp_compR (fun i g acc => Fr q p h g ∧ g.length = h.length ∧ ∃ ws : List Int, acc = ws.map W.int ∧ ws.length = i ∧ ∀ x ∈ ws, P x) ?_ ⟨Fr.refl T, rfl, [], rfl, rfl, by simp⟩ ?_
  · rintro i g' acc hi ⟨F, L, ws, rfl, rfl, hw⟩
    have s := step _ g' hi F.tp L
    generalize asg _ _ _ = o at s ⊢
    cases o with
    | none => exact s
    | some ρ' =>
      refine wp_mono (show wp _ _ noE from s) (fun k g1 b => ?_) (fun _ _ z => z)
      cases k with
      | false => exact b.elim
      | true =>
        refine wp_mono (show wp _ _ noE from b) (fun y g2 z => ?_) (fun _ _ z => z)
        obtain ⟨r, rfl, pr, F', L'⟩ := z
        refine ⟨by simp; omega, F.trans F', by omega, ws ++ [r], by simp, by simp, ?_⟩
        intro x hx
        rcases List.mem_append.mp hx with z | z
        · exact hw x z
        · rw [List.mem_singleton.mp z]; exact pr
  · rintro g acc ⟨F, L, ws, rfl, hl, hw⟩
    exact K ws g hl hw F L
/-- the same where the elements leave lists of their own -/
theorem comp_ints2 {q p n : Nat} {h : Hw} {lo : Int} {g : IG} {test : En → Hw → Res Bool} {elt : En → Hw → Res W} {own : List Nat} {ρ : En} {Q : List W → Hw → Prop} {E : Ex → Hw → Prop} (P : Int → Prop) (T : Tp q p h) (hn : n < 16777216)
    (step : ∀ (i : Nat) (g' : Hw), i < n → Tp q p g' → h.length ≤ g'.length → wo (asg g (.int (lo + (i : Int))) (wipe ρ own)) fun ρ' => wp (test ρ' g') (fun k g1 => br k (wp (elt ρ' g1) (fun y g2 => ∃ r : Int, y = .int r ∧ P r ∧ Fr q p g' g2) noE) False) noE)
    (K : ∀ (ns : List Int) (h' : Hw), ns.length = n → (∀ x ∈ ns, P x) → Fr q p h h' → Q (ns.map W.int) h') : wp (compL g [] test elt own ρ (rng lo n) h []) Q E := by
  refine wp_compR (fun i g acc => Fr q p h g ∧ ∃ ws : List Int, acc = ws.map W.int ∧ ws.length = i ∧ ∀ x ∈ ws, P x) ?_ ⟨Fr.refl T, [], rfl, rfl, by simp⟩ ?_
  · rintro i g' acc hi ⟨F, ws, rfl, rfl, hw⟩
    have s := step _ g' hi F.tp F.len
    generalize asg _ _ _ = o at s ⊢
    cases o with
    | none => exact s
    | some ρ' =>
      refine wp_mono (show wp _ _ noE from s) (fun k g1 b => ?_) (fun _ _ z => z)
      cases k with
      | false => exact b.elim
      | true =>
        refine wp_mono (show wp _ _ noE from b) (fun y g2 z => ?_) (fun _ _ z => z)
        obtain ⟨r, rfl, pr, F'⟩ := z
        refine ⟨by simp; omega, F.trans F', ws ++ [r], by simp, by simp, ?_⟩
        intro x hx
        rcases List.mem_append.mp hx with z | z
        · exact hw x z
        · rw [List.mem_singleton.mp z]; exact pr
  · rintro g acc ⟨F, ws, rfl, hl, hw⟩
    exact K ws g hl hw F
/-- a comprehension of drawn things -/
theorem comp_as {α : Type} (f : α → W) {q p n : Nat} {h : Hw} {lo : Int} {g : IG} {test : En → Hw → Res Bool} {elt : En → Hw → Res W} {own : List Nat} {ρ : En} {Q : List W → Hw → Prop} {E : Ex → Hw → Prop} (P : α → Prop) (T : Tp q p h) (hn : n < 16777216)
    (step : ∀ (i : Nat) (g' : Hw), i < n → Fr q p h g' → g'.length = h.length → wo (asg g (.int (lo + (i : Int))) (wipe ρ own)) fun ρ' => wp (test ρ' g') (fun k g1 => br k (wp (elt ρ' g1) (fun y g2 => ∃ r : α, y = f r ∧ P r ∧ Fr q p g' g2 ∧ g2.length = g'.length) noE) False) noE)
    (K : ∀ (as : List α) (h' : Hw), as.length = n → (∀ x ∈ as, P x) → Fr q p h h' → h'.length = h.length → Q (as.map f) h') : wp (compL g [] test elt own ρ (rng lo n) h []) Q E := by
  refine wp_compR (fun i g acc => Fr q p h g ∧ g.length = h.length ∧ ∃ ws : List α, acc = ws.map f ∧ ws.length = i ∧ ∀ x ∈ ws, P x) ?_ ⟨Fr.refl T, rfl, [], rfl, rfl, by simp⟩ ?_
  · rintro i g' acc hi ⟨F, L, ws, rfl, rfl, hw⟩
    have s := step _ g' hi F L
    generalize asg _ _ _ = o at s ⊢
    cases o with
    | none => exact s
    | some ρ' =>
      refine wp_mono (show wp _ _ noE from s) (fun k g1 b => ?_) (fun _ _ z => z)
      cases k with
      | false => exact b.elim
      | true =>
        refine wp_mono (show wp _ _ noE from b) (fun y g2 z => ?_) (fun _ _ z => z)
        obtain ⟨r, rfl, pr, F', L'⟩ := z
        refine ⟨by simp; omega, F.trans F', by omega, ws ++ [r], by simp, by simp, ?_⟩
        intro x hx
        rcases List.mem_append.mp hx with z | z
        · exact hw x z
        · rw [List.mem_singleton.mp z]; exact pr
  · rintro g acc ⟨F, L, ws, rfl, hl, hw⟩
    exact K ws g hl hw F L
/-- the same over a list -/
theorem comp_asL {α β : Type} (f : α → W) (fb : β → W) (bs : List β) {q p : Nat} {h : Hw} {g : IG} {gu : Gu} {test : En → Hw → Res Bool} {elt : En → Hw → Res W} {own : List Nat} {ρ : En} {Q : List W → Hw → Prop} {E : Ex → Hw → Prop} (P : α → Prop) (T : Tp q p h) (hn : bs.length < 16777216) (hg : ∀ g', Fr q p h g' → guOk gu g')
    (step : ∀ (b : β) (g' : Hw), b ∈ bs → Fr q p h g' → g'.length = h.length → wo (asg g (fb b) (wipe ρ own)) fun ρ' => wp (test ρ' g') (fun k g1 => br k (wp (elt ρ' g1) (fun y g2 => ∃ r : α, y = f r ∧ P r ∧ Fr q p g' g2 ∧ g2.length = g'.length) noE) False) noE)
    (K : ∀ (as : List α) (h' : Hw), as.length = bs.length → (∀ x ∈ as, P x) → Fr q p h h' → h'.length = h.length → Q (as.map f) h') : wp (compL g gu test elt own ρ (bs.map fb) h []) Q E := by
  refine wp_comp fb bs (fun pre g acc => Fr q p h g ∧ g.length = h.length ∧ ∃ ws : List α, acc = ws.map f ∧ ws.length = pre.length ∧ ∀ x ∈ ws, P x) (fun _ _ _ z => hg _ z.1) ?_ ⟨Fr.refl T, rfl, [], rfl, rfl, by simp⟩ ?_
  · rintro pre a suf g' acc e ⟨F, L, ws, rfl, hwl, hw⟩
    have s := step a g' (by rw [e]; simp) F L
    have hl2 : pre.length < bs.length := by rw [e]; simp
    generalize asg _ _ _ = o at s ⊢
    cases o with
    | none => exact s
    | some ρ' =>
      refine wp_mono (show wp _ _ noE from s) (fun k g1 b => ?_) (fun _ _ z => z)
      cases k with
      | false => exact b.elim
      | true =>
        refine wp_mono (show wp _ _ noE from b) (fun y g2 z => ?_) (fun _ _ z => z)
        obtain ⟨r, rfl, pr, F', L'⟩ := z
        refine ⟨by simp; omega, F.trans F', by omega, ws ++ [r], by simp, by simp; omega, ?_⟩
        intro x hx
        rcases List.mem_append.mp hx with z | z
        · exact hw x z
        · rw [List.mem_singleton.mp z]; exact pr
  · rintro g acc ⟨F, L, ws, rfl, hl, hw⟩
    exact K ws g hl hw F L
/-- a comprehension of drawn things that leave lists behind -/
theorem comp_as2 {α : Type} (f : α → W) {q p n : Nat} {h : Hw} {lo : Int} {g : IG} {test : En → Hw → Res Bool} {elt : En → Hw → Res W} {own : List Nat} {ρ : En} {Q : List W → Hw → Prop} {E : Ex → Hw → Prop} (P : α → Prop) (T : Tp q p h) (hn : n < 16777216)
    (step : ∀ (i : Nat) (g' : Hw), i < n → Fr q p h g' → wo (asg g (.int (lo + (i : Int))) (wipe ρ own)) fun ρ' => wp (test ρ' g') (fun k g1 => br k (wp (elt ρ' g1) (fun y g2 => ∃ r : α, y = f r ∧ P r ∧ Fr q p g' g2) noE) False) noE)
    (K : ∀ (as : List α) (h' : Hw), as.length = n → (∀ x ∈ as, P x) → Fr q p h h' → Q (as.map f) h') : wp (compL g [] test elt own ρ (rng lo n) h []) Q E := by
  refine wp_compR (fun i g acc => Fr q p h g ∧ ∃ ws : List α, acc = ws.map f ∧ ws.length = i ∧ ∀ x ∈ ws, P x) ?_ ⟨Fr.refl T, [], rfl, rfl, by simp⟩ ?_
  · rintro i g' acc hi ⟨F, ws, rfl, rfl, hw⟩
    have s := step _ g' hi F
    generalize asg _ _ _ = o at s ⊢
    cases o with
    | none => exact s
    | some ρ' =>
      refine wp_mono (show wp _ _ noE from s) (fun k g1 b => ?_) (fun _ _ z => z)
      cases k with
      | false => exact b.elim
      | true =>
        refine wp_mono (show wp _ _ noE from b) (fun y g2 z => ?_) (fun _ _ z => z)
        obtain ⟨r, rfl, pr, F'⟩ := z
        refine ⟨by simp; omega, F.trans F', ws ++ [r], by simp, by simp, ?_⟩
        intro x hx
        rcases List.mem_append.mp hx with z | z
        · exact hw x z
        · rw [List.mem_singleton.mp z]; exact pr
  · rintro g acc ⟨F, ws, rfl, hl, hw⟩
    exact K ws g hl hw F
end Law

namespace Law
open PySem Ev
theorem rise_wp {k q p : Nat} {h : Hw} {m : Int} {Q : W → Hw → Prop} {E : Ex → Hw → Prop} (T : Tp q p h) (hm : 1 ≤ m ∧ m < 1000000) (K : ∀ (r : Int) (h' : Hw), 0 ≤ r → r ≤ m → Fr q p h h' → h'.length = h.length → Q (.int r) h') : wp (PhiN ds (k + 2) 10 [.ref p, .int m] h) Q E := by
  have hp := T.lt
  refine go__law_rise ?_
  unfold s__law_rise
  try simp -implicitDefEqProofs -dsimp (disch := first | omega | (simp only [List.length_set, List.length_append, List.length_cons, List.length_nil, List.length_map]; omega)) only [↓wp_ok, ↓wp_err, ↓wp_exc, ↓wp_bind, ↓wp_var, ↓wp_cst, ↓wp_bin, ↓wp_neg, ↓wp_cmp, ↓wp_and, ↓wp_or, ↓wp_not, ↓wp_ite, ↓wp_tup, ↓wp_lst, ↓wp_idx, ↓wp_slc, ↓wp_call, ↓wp_bi, ↓wp_bl, ↓wp_mt, ↓wp_mk, ↓wp_lr1, ↓wp_lr2, ↓wp_aa, ↓wp_tr2, ↓wp_maxD, ↓wp_srt, ↓wp_glc, ↓wp_rgN, ↓wp_srtD, ↓wp_lc2, ↓wp_i3, ↓wp_iv, ↓mt_pp, ↓mt_ppA, ↓wp_esn, ↓wp_esc, ↓wp_pn, ↓wp_pa, ↓wp_tv, ↓wp_ta, ↓wp_to, ↓wp_tn, ↓wp_lo, ↓wp_ld, ↓wp_lc, ↓wp_tsn, ↓wp_tsc, ↓wp_io, ↓wp_i1, ↓wp_i2, ↓wp_iz, ↓wp_ie, ↓wo_some, ↓wo_none, ↓br_t, ↓br_f, ↓wps_ok, ↓wps_st, ↓wb_add, ↓wb_sub, ↓wb_mulR, ↓wb_mulL, ↓wb_div, ↓wb_mod, ↓wb_pow, ↓wb_addT, ↓wb_mulT, ↓wb_addL, ↓wb_mulLs, ↓wn_neg, ↓wc_eq, ↓wc_ne, ↓wc_lt, ↓wc_le, ↓wc_gt, ↓wc_ge, ↓wc_in, ↓wc_nin, ↓wc_isN, ↓wc_notN, ↓item_int, ↓sl_tup, ↓sl_ref, ↓bi_len, ↓bi_abs, ↓bi_int, ↓bi_intb, ↓bi_isI, ↓bi_max, ↓bi_min, ↓bi_divmod, ↓bi_lcm, ↓bi_gcd, ↓bl_sum, ↓bl_tuple, ↓bl_list, ↓bl_len, ↓bl_max, ↓bl_min, ↓mt_app, ↓mt_ext, ↓mt_ix, ↓setIt_ref, ↓ws_n, ↓ws_c, ↓ws_expr, ↓ws_asg, ↓ws_set, ↓ws_aug, ↓ws_augS, ↓ws_bad, ↓ws_if, ↓ws_for, ↓ws_whl, ↓ws_ret, ↓ws_retN, ↓ws_brk, ↓ws_cont, ↓ws_pass, ↓sq_n, ↓sq_b, ↓sq_c, ↓sq_r, ↓sq_z, ↓fin_ret, ↓fin_next, ↓fin_rz, ↓isTy_cv, ↓isTy_rt, ↓tr_cv, ↓tr_rt, look_z, look_s, rgW_rg, isNon_non, isNon_bl, isNon_int, isNon_str, isNon_tup, isNon_fl, isNon_ref, eqW_int, eqW_bl, tr_non, tr_bl, tr_int, tr_tup, ixN_in, ixN_neg, mtW_ref, seqOf_ref, seqOf_tup, seqOf_fl, seqOf_rt, seqOf_cv, isNon_rt, isNon_cv, isTup_rt, isTup_cv, guOf_rt, guOf_cv, isTy_rt, isTy_cv, cv_eq, rt_eq, asg_rt, asg_cv, asg_var, asg_tup2, asg_tup3, isTy, guOf, isTup, intW, aug_add, aug_sub, augO_a, augO_s, lstAt_z, lstAt_s, lstAt_al, lstAt_e, lstAt_ar, Nat.sub_self, Nat.add_sub_cancel_left, Nat.reduceSubDiff, List.append_assoc, lstAt_set, lstAt_ne, toInts_ints, toInts_nil, toInts_cons, toBls_nil, toBls_cons, Option.map_some, List.set_cons_succ, List.set_cons_zero, List.getElem?_cons_zero, List.getElem?_cons_succ, List.getElem_cons_zero, List.getElem_cons_succ, List.length_cons, List.length_nil, List.length_set, List.length_append, List.length_map, List.nil_append, List.cons_append, List.append_nil, List.set_set, Nat.reduceAdd, Nat.reduceLeDiff, Nat.reduceLT, Nat.reduceSub, true_and, and_true, Bool.not_true, Bool.not_false, decide_true, decide_false, Int.reduceToNat, Int.reducePow, Int.reduceNeg, Int.cast_ofNat_Int, decide_eq_true_eq, Nat.zero_add, Nat.add_zero, Int.toNat_natCast, Int.reduceLT, Int.reduceLE, Int.reduceBNe, Int.reduceEq, Int.natCast_add, Nat.le_refl]
  refine draw2 T (by omega) fun r h1 a b F L => ?_
  try simp -implicitDefEqProofs -dsimp (disch := first | omega | (simp only [List.length_set, List.length_append, List.length_cons, List.length_nil, List.length_map]; omega)) only [↓wp_ok, ↓wp_err, ↓wp_exc, ↓wp_bind, ↓wp_var, ↓wp_cst, ↓wp_bin, ↓wp_neg, ↓wp_cmp, ↓wp_and, ↓wp_or, ↓wp_not, ↓wp_ite, ↓wp_tup, ↓wp_lst, ↓wp_idx, ↓wp_slc, ↓wp_call, ↓wp_bi, ↓wp_bl, ↓wp_mt, ↓wp_mk, ↓wp_lr1, ↓wp_lr2, ↓wp_aa, ↓wp_tr2, ↓wp_maxD, ↓wp_srt, ↓wp_glc, ↓wp_rgN, ↓wp_srtD, ↓wp_lc2, ↓wp_i3, ↓wp_iv, ↓mt_pp, ↓mt_ppA, ↓wp_esn, ↓wp_esc, ↓wp_pn, ↓wp_pa, ↓wp_tv, ↓wp_ta, ↓wp_to, ↓wp_tn, ↓wp_lo, ↓wp_ld, ↓wp_lc, ↓wp_tsn, ↓wp_tsc, ↓wp_io, ↓wp_i1, ↓wp_i2, ↓wp_iz, ↓wp_ie, ↓wo_some, ↓wo_none, ↓br_t, ↓br_f, ↓wps_ok, ↓wps_st, ↓wb_add, ↓wb_sub, ↓wb_mulR, ↓wb_mulL, ↓wb_div, ↓wb_mod, ↓wb_pow, ↓wb_addT, ↓wb_mulT, ↓wb_addL, ↓wb_mulLs, ↓wn_neg, ↓wc_eq, ↓wc_ne, ↓wc_lt, ↓wc_le, ↓wc_gt, ↓wc_ge, ↓wc_in, ↓wc_nin, ↓wc_isN, ↓wc_notN, ↓item_int, ↓sl_tup, ↓sl_ref, ↓bi_len, ↓bi_abs, ↓bi_int, ↓bi_intb, ↓bi_isI, ↓bi_max, ↓bi_min, ↓bi_divmod, ↓bi_lcm, ↓bi_gcd, ↓bl_sum, ↓bl_tuple, ↓bl_list, ↓bl_len, ↓bl_max, ↓bl_min, ↓mt_app, ↓mt_ext, ↓mt_ix, ↓setIt_ref, ↓ws_n, ↓ws_c, ↓ws_expr, ↓ws_asg, ↓ws_set, ↓ws_aug, ↓ws_augS, ↓ws_bad, ↓ws_if, ↓ws_for, ↓ws_whl, ↓ws_ret, ↓ws_retN, ↓ws_brk, ↓ws_cont, ↓ws_pass, ↓sq_n, ↓sq_b, ↓sq_c, ↓sq_r, ↓sq_z, ↓fin_ret, ↓fin_next, ↓fin_rz, ↓isTy_cv, ↓isTy_rt, ↓tr_cv, ↓tr_rt, look_z, look_s, rgW_rg, isNon_non, isNon_bl, isNon_int, isNon_str, isNon_tup, isNon_fl, isNon_ref, eqW_int, eqW_bl, tr_non, tr_bl, tr_int, tr_tup, ixN_in, ixN_neg, mtW_ref, seqOf_ref, seqOf_tup, seqOf_fl, seqOf_rt, seqOf_cv, isNon_rt, isNon_cv, isTup_rt, isTup_cv, guOf_rt, guOf_cv, isTy_rt, isTy_cv, cv_eq, rt_eq, asg_rt, asg_cv, asg_var, asg_tup2, asg_tup3, isTy, guOf, isTup, intW, aug_add, aug_sub, augO_a, augO_s, lstAt_z, lstAt_s, lstAt_al, lstAt_e, lstAt_ar, Nat.sub_self, Nat.add_sub_cancel_left, Nat.reduceSubDiff, List.append_assoc, lstAt_set, lstAt_ne, toInts_ints, toInts_nil, toInts_cons, toBls_nil, toBls_cons, Option.map_some, List.set_cons_succ, List.set_cons_zero, List.getElem?_cons_zero, List.getElem?_cons_succ, List.getElem_cons_zero, List.getElem_cons_succ, List.length_cons, List.length_nil, List.length_set, List.length_append, List.length_map, List.nil_append, List.cons_append, List.append_nil, List.set_set, Nat.reduceAdd, Nat.reduceLeDiff, Nat.reduceLT, Nat.reduceSub, true_and, and_true, Bool.not_true, Bool.not_false, decide_true, decide_false, Int.reduceToNat, Int.reducePow, Int.reduceNeg, Int.cast_ofNat_Int, decide_eq_true_eq, Nat.zero_add, Nat.add_zero, Int.toNat_natCast, Int.reduceLT, Int.reduceLE, Int.reduceBNe, Int.reduceEq, Int.natCast_add, Nat.le_refl]
  refine br_intro (fun hk => ?_) (fun hk => ?_)
  · try simp -implicitDefEqProofs -dsimp (disch := first | omega | (simp only [List.length_set, List.length_append, List.length_cons, List.length_nil, List.length_map]; omega)) only [↓wp_ok, ↓wp_err, ↓wp_exc, ↓wp_bind, ↓wp_var, ↓wp_cst, ↓wp_bin, ↓wp_neg, ↓wp_cmp, ↓wp_and, ↓wp_or, ↓wp_not, ↓wp_ite, ↓wp_tup, ↓wp_lst, ↓wp_idx, ↓wp_slc, ↓wp_call, ↓wp_bi, ↓wp_bl, ↓wp_mt, ↓wp_mk, ↓wp_lr1, ↓wp_lr2, ↓wp_aa, ↓wp_tr2, ↓wp_maxD, ↓wp_srt, ↓wp_glc, ↓wp_rgN, ↓wp_srtD, ↓wp_lc2, ↓wp_i3, ↓wp_iv, ↓mt_pp, ↓mt_ppA, ↓wp_esn, ↓wp_esc, ↓wp_pn, ↓wp_pa, ↓wp_tv, ↓wp_ta, ↓wp_to, ↓wp_tn, ↓wp_lo, ↓wp_ld, ↓wp_lc, ↓wp_tsn, ↓wp_tsc, ↓wp_io, ↓wp_i1, ↓wp_i2, ↓wp_iz, ↓wp_ie, ↓wo_some, ↓wo_none, ↓br_t, ↓br_f, ↓wps_ok, ↓wps_st, ↓wb_add, ↓wb_sub, ↓wb_mulR, ↓wb_mulL, ↓wb_div, ↓wb_mod, ↓wb_pow, ↓wb_addT, ↓wb_mulT, ↓wb_addL, ↓wb_mulLs, ↓wn_neg, ↓wc_eq, ↓wc_ne, ↓wc_lt, ↓wc_le, ↓wc_gt, ↓wc_ge, ↓wc_in, ↓wc_nin, ↓wc_isN, ↓wc_notN, ↓item_int, ↓sl_tup, ↓sl_ref, ↓bi_len, ↓bi_abs, ↓bi_int, ↓bi_intb, ↓bi_isI, ↓bi_max, ↓bi_min, ↓bi_divmod, ↓bi_lcm, ↓bi_gcd, ↓bl_sum, ↓bl_tuple, ↓bl_list, ↓bl_len, ↓bl_max, ↓bl_min, ↓mt_app, ↓mt_ext, ↓mt_ix, ↓setIt_ref, ↓ws_n, ↓ws_c, ↓ws_expr, ↓ws_asg, ↓ws_set, ↓ws_aug, ↓ws_augS, ↓ws_bad, ↓ws_if, ↓ws_for, ↓ws_whl, ↓ws_ret, ↓ws_retN, ↓ws_brk, ↓ws_cont, ↓ws_pass, ↓sq_n, ↓sq_b, ↓sq_c, ↓sq_r, ↓sq_z, ↓fin_ret, ↓fin_next, ↓fin_rz, ↓isTy_cv, ↓isTy_rt, ↓tr_cv, ↓tr_rt, look_z, look_s, rgW_rg, isNon_non, isNon_bl, isNon_int, isNon_str, isNon_tup, isNon_fl, isNon_ref, eqW_int, eqW_bl, tr_non, tr_bl, tr_int, tr_tup, ixN_in, ixN_neg, mtW_ref, seqOf_ref, seqOf_tup, seqOf_fl, seqOf_rt, seqOf_cv, isNon_rt, isNon_cv, isTup_rt, isTup_cv, guOf_rt, guOf_cv, isTy_rt, isTy_cv, cv_eq, rt_eq, asg_rt, asg_cv, asg_var, asg_tup2, asg_tup3, isTy, guOf, isTup, intW, aug_add, aug_sub, augO_a, augO_s, lstAt_z, lstAt_s, lstAt_al, lstAt_e, lstAt_ar, Nat.sub_self, Nat.add_sub_cancel_left, Nat.reduceSubDiff, List.append_assoc, lstAt_set, lstAt_ne, toInts_ints, toInts_nil, toInts_cons, toBls_nil, toBls_cons, Option.map_some, List.set_cons_succ, List.set_cons_zero, List.getElem?_cons_zero, List.getElem?_cons_succ, List.getElem_cons_zero, List.getElem_cons_succ, List.length_cons, List.length_nil, List.length_set, List.length_append, List.length_map, List.nil_append, List.cons_append, List.append_nil, List.set_set, Nat.reduceAdd, Nat.reduceLeDiff, Nat.reduceLT, Nat.reduceSub, true_and, and_true, Bool.not_true, Bool.not_false, decide_true, decide_false, Int.reduceToNat, Int.reducePow, Int.reduceNeg, Int.cast_ofNat_Int, decide_eq_true_eq, Nat.zero_add, Nat.add_zero, Int.toNat_natCast, Int.reduceLT, Int.reduceLE, Int.reduceBNe, Int.reduceEq, Int.natCast_add, Nat.le_refl]
    exact tidy_fr F T blw_int fun g F' L' => K _ _ (by omega) (by omega) F' L'
  · try simp -implicitDefEqProofs -dsimp (disch := first | omega | (simp only [List.length_set, List.length_append, List.length_cons, List.length_nil, List.length_map]; omega)) only [↓wp_ok, ↓wp_err, ↓wp_exc, ↓wp_bind, ↓wp_var, ↓wp_cst, ↓wp_bin, ↓wp_neg, ↓wp_cmp, ↓wp_and, ↓wp_or, ↓wp_not, ↓wp_ite, ↓wp_tup, ↓wp_lst, ↓wp_idx, ↓wp_slc, ↓wp_call, ↓wp_bi, ↓wp_bl, ↓wp_mt, ↓wp_mk, ↓wp_lr1, ↓wp_lr2, ↓wp_aa, ↓wp_tr2, ↓wp_maxD, ↓wp_srt, ↓wp_glc, ↓wp_rgN, ↓wp_srtD, ↓wp_lc2, ↓wp_i3, ↓wp_iv, ↓mt_pp, ↓mt_ppA, ↓wp_esn, ↓wp_esc, ↓wp_pn, ↓wp_pa, ↓wp_tv, ↓wp_ta, ↓wp_to, ↓wp_tn, ↓wp_lo, ↓wp_ld, ↓wp_lc, ↓wp_tsn, ↓wp_tsc, ↓wp_io, ↓wp_i1, ↓wp_i2, ↓wp_iz, ↓wp_ie, ↓wo_some, ↓wo_none, ↓br_t, ↓br_f, ↓wps_ok, ↓wps_st, ↓wb_add, ↓wb_sub, ↓wb_mulR, ↓wb_mulL, ↓wb_div, ↓wb_mod, ↓wb_pow, ↓wb_addT, ↓wb_mulT, ↓wb_addL, ↓wb_mulLs, ↓wn_neg, ↓wc_eq, ↓wc_ne, ↓wc_lt, ↓wc_le, ↓wc_gt, ↓wc_ge, ↓wc_in, ↓wc_nin, ↓wc_isN, ↓wc_notN, ↓item_int, ↓sl_tup, ↓sl_ref, ↓bi_len, ↓bi_abs, ↓bi_int, ↓bi_intb, ↓bi_isI, ↓bi_max, ↓bi_min, ↓bi_divmod, ↓bi_lcm, ↓bi_gcd, ↓bl_sum, ↓bl_tuple, ↓bl_list, ↓bl_len, ↓bl_max, ↓bl_min, ↓mt_app, ↓mt_ext, ↓mt_ix, ↓setIt_ref, ↓ws_n, ↓ws_c, ↓ws_expr, ↓ws_asg, ↓ws_set, ↓ws_aug, ↓ws_augS, ↓ws_bad, ↓ws_if, ↓ws_for, ↓ws_whl, ↓ws_ret, ↓ws_retN, ↓ws_brk, ↓ws_cont, ↓ws_pass, ↓sq_n, ↓sq_b, ↓sq_c, ↓sq_r, ↓sq_z, ↓fin_ret, ↓fin_next, ↓fin_rz, ↓isTy_cv, ↓isTy_rt, ↓tr_cv, ↓tr_rt, look_z, look_s, rgW_rg, isNon_non, isNon_bl, isNon_int, isNon_str, isNon_tup, isNon_fl, isNon_ref, eqW_int, eqW_bl, tr_non, tr_bl, tr_int, tr_tup, ixN_in, ixN_neg, mtW_ref, seqOf_ref, seqOf_tup, seqOf_fl, seqOf_rt, seqOf_cv, isNon_rt, isNon_cv, isTup_rt, isTup_cv, guOf_rt, guOf_cv, isTy_rt, isTy_cv, cv_eq, rt_eq, asg_rt, asg_cv, asg_var, asg_tup2, asg_tup3, isTy, guOf, isTup, intW, aug_add, aug_sub, augO_a, augO_s, lstAt_z, lstAt_s, lstAt_al, lstAt_e, lstAt_ar, Nat.sub_self, Nat.add_sub_cancel_left, Nat.reduceSubDiff, List.append_assoc, lstAt_set, lstAt_ne, toInts_ints, toInts_nil, toInts_cons, toBls_nil, toBls_cons, Option.map_some, List.set_cons_succ, List.set_cons_zero, List.getElem?_cons_zero, List.getElem?_cons_succ, List.getElem_cons_zero, List.getElem_cons_succ, List.length_cons, List.length_nil, List.length_set, List.length_append, List.length_map, List.nil_append, List.cons_append, List.append_nil, List.set_set, Nat.reduceAdd, Nat.reduceLeDiff, Nat.reduceLT, Nat.reduceSub, true_and, and_true, Bool.not_true, Bool.not_false, decide_true, decide_false, Int.reduceToNat, Int.reducePow, Int.reduceNeg, Int.cast_ofNat_Int, decide_eq_true_eq, Nat.zero_add, Nat.add_zero, Int.toNat_natCast, Int.reduceLT, Int.reduceLE, Int.reduceBNe, Int.reduceEq, Int.natCast_add, Nat.le_refl]
    refine draw2 (F.tp.app _) (by omega) fun r2 h2 a2 b2 F2 L2 => ?_
    have e2 : lstAt h2 h1.length = some [.int 0, .int 1, .int 1, .int 2, .int r, .int m] := by rw [F2.lst (by simp) (by omega)]; exact (lst_new rfl (Nat.le_refl _)).trans (by rw [Nat.sub_self]; rfl)
    try simp -implicitDefEqProofs -dsimp (disch := first | omega | (simp only [List.length_set, List.length_append, List.length_cons, List.length_nil, List.length_map]; omega)) only [↓wp_ok, ↓wp_err, ↓wp_exc, ↓wp_bind, ↓wp_var, ↓wp_cst, ↓wp_bin, ↓wp_neg, ↓wp_cmp, ↓wp_and, ↓wp_or, ↓wp_not, ↓wp_ite, ↓wp_tup, ↓wp_lst, ↓wp_idx, ↓wp_slc, ↓wp_call, ↓wp_bi, ↓wp_bl, ↓wp_mt, ↓wp_mk, ↓wp_lr1, ↓wp_lr2, ↓wp_aa, ↓wp_tr2, ↓wp_maxD, ↓wp_srt, ↓wp_glc, ↓wp_rgN, ↓wp_srtD, ↓wp_lc2, ↓wp_i3, ↓wp_iv, ↓mt_pp, ↓mt_ppA, ↓wp_esn, ↓wp_esc, ↓wp_pn, ↓wp_pa, ↓wp_tv, ↓wp_ta, ↓wp_to, ↓wp_tn, ↓wp_lo, ↓wp_ld, ↓wp_lc, ↓wp_tsn, ↓wp_tsc, ↓wp_io, ↓wp_i1, ↓wp_i2, ↓wp_iz, ↓wp_ie, ↓wo_some, ↓wo_none, ↓br_t, ↓br_f, ↓wps_ok, ↓wps_st, ↓wb_add, ↓wb_sub, ↓wb_mulR, ↓wb_mulL, ↓wb_div, ↓wb_mod, ↓wb_pow, ↓wb_addT, ↓wb_mulT, ↓wb_addL, ↓wb_mulLs, ↓wn_neg, ↓wc_eq, ↓wc_ne, ↓wc_lt, ↓wc_le, ↓wc_gt, ↓wc_ge, ↓wc_in, ↓wc_nin, ↓wc_isN, ↓wc_notN, ↓item_int, ↓sl_tup, ↓sl_ref, ↓bi_len, ↓bi_abs, ↓bi_int, ↓bi_intb, ↓bi_isI, ↓bi_max, ↓bi_min, ↓bi_divmod, ↓bi_lcm, ↓bi_gcd, ↓bl_sum, ↓bl_tuple, ↓bl_list, ↓bl_len, ↓bl_max, ↓bl_min, ↓mt_app, ↓mt_ext, ↓mt_ix, ↓setIt_ref, ↓ws_n, ↓ws_c, ↓ws_expr, ↓ws_asg, ↓ws_set, ↓ws_aug, ↓ws_augS, ↓ws_bad, ↓ws_if, ↓ws_for, ↓ws_whl, ↓ws_ret, ↓ws_retN, ↓ws_brk, ↓ws_cont, ↓ws_pass, ↓sq_n, ↓sq_b, ↓sq_c, ↓sq_r, ↓sq_z, ↓fin_ret, ↓fin_next, ↓fin_rz, ↓isTy_cv, ↓isTy_rt, ↓tr_cv, ↓tr_rt, look_z, look_s, rgW_rg, isNon_non, isNon_bl, isNon_int, isNon_str, isNon_tup, isNon_fl, isNon_ref, eqW_int, eqW_bl, tr_non, tr_bl, tr_int, tr_tup, ixN_in, ixN_neg, mtW_ref, seqOf_ref, seqOf_tup, seqOf_fl, seqOf_rt, seqOf_cv, isNon_rt, isNon_cv, isTup_rt, isTup_cv, guOf_rt, guOf_cv, isTy_rt, isTy_cv, cv_eq, rt_eq, asg_rt, asg_cv, asg_var, asg_tup2, asg_tup3, isTy, guOf, isTup, intW, aug_add, aug_sub, augO_a, augO_s, lstAt_z, lstAt_s, lstAt_al, lstAt_e, lstAt_ar, Nat.sub_self, Nat.add_sub_cancel_left, Nat.reduceSubDiff, List.append_assoc, lstAt_set, lstAt_ne, toInts_ints, toInts_nil, toInts_cons, toBls_nil, toBls_cons, Option.map_some, List.set_cons_succ, List.set_cons_zero, List.getElem?_cons_zero, List.getElem?_cons_succ, List.getElem_cons_zero, List.getElem_cons_succ, List.length_cons, List.length_nil, List.length_set, List.length_append, List.length_map, List.nil_append, List.cons_append, List.append_nil, List.set_set, Nat.reduceAdd, Nat.reduceLeDiff, Nat.reduceLT, Nat.reduceSub, true_and, and_true, Bool.not_true, Bool.not_false, decide_true, decide_false, Int.reduceToNat, Int.reducePow, Int.reduceNeg, Int.cast_ofNat_Int, decide_eq_true_eq, Nat.zero_add, Nat.add_zero, Int.toNat_natCast, Int.reduceLT, Int.reduceLE, Int.reduceBNe, Int.reduceEq, Int.natCast_add, Nat.le_refl, e2]
    refine wo_pick [0, 1, 1, 2, r, m] (fun c => 0 ≤ c) (by simp; omega) (by simp; omega) fun c hc => ?_
    try simp -implicitDefEqProofs -dsimp (disch := first | omega | (simp only [List.length_set, List.length_append, List.length_cons, List.length_nil, List.length_map]; omega)) only [↓wp_ok, ↓wp_err, ↓wp_exc, ↓wp_bind, ↓wp_var, ↓wp_cst, ↓wp_bin, ↓wp_neg, ↓wp_cmp, ↓wp_and, ↓wp_or, ↓wp_not, ↓wp_ite, ↓wp_tup, ↓wp_lst, ↓wp_idx, ↓wp_slc, ↓wp_call, ↓wp_bi, ↓wp_bl, ↓wp_mt, ↓wp_mk, ↓wp_lr1, ↓wp_lr2, ↓wp_aa, ↓wp_tr2, ↓wp_maxD, ↓wp_srt, ↓wp_glc, ↓wp_rgN, ↓wp_srtD, ↓wp_lc2, ↓wp_i3, ↓wp_iv, ↓mt_pp, ↓mt_ppA, ↓wp_esn, ↓wp_esc, ↓wp_pn, ↓wp_pa, ↓wp_tv, ↓wp_ta, ↓wp_to, ↓wp_tn, ↓wp_lo, ↓wp_ld, ↓wp_lc, ↓wp_tsn, ↓wp_tsc, ↓wp_io, ↓wp_i1, ↓wp_i2, ↓wp_iz, ↓wp_ie, ↓wo_some, ↓wo_none, ↓br_t, ↓br_f, ↓wps_ok, ↓wps_st, ↓wb_add, ↓wb_sub, ↓wb_mulR, ↓wb_mulL, ↓wb_div, ↓wb_mod, ↓wb_pow, ↓wb_addT, ↓wb_mulT, ↓wb_addL, ↓wb_mulLs, ↓wn_neg, ↓wc_eq, ↓wc_ne, ↓wc_lt, ↓wc_le, ↓wc_gt, ↓wc_ge, ↓wc_in, ↓wc_nin, ↓wc_isN, ↓wc_notN, ↓item_int, ↓sl_tup, ↓sl_ref, ↓bi_len, ↓bi_abs, ↓bi_int, ↓bi_intb, ↓bi_isI, ↓bi_max, ↓bi_min, ↓bi_divmod, ↓bi_lcm, ↓bi_gcd, ↓bl_sum, ↓bl_tuple, ↓bl_list, ↓bl_len, ↓bl_max, ↓bl_min, ↓mt_app, ↓mt_ext, ↓mt_ix, ↓setIt_ref, ↓ws_n, ↓ws_c, ↓ws_expr, ↓ws_asg, ↓ws_set, ↓ws_aug, ↓ws_augS, ↓ws_bad, ↓ws_if, ↓ws_for, ↓ws_whl, ↓ws_ret, ↓ws_retN, ↓ws_brk, ↓ws_cont, ↓ws_pass, ↓sq_n, ↓sq_b, ↓sq_c, ↓sq_r, ↓sq_z, ↓fin_ret, ↓fin_next, ↓fin_rz, ↓isTy_cv, ↓isTy_rt, ↓tr_cv, ↓tr_rt, look_z, look_s, rgW_rg, isNon_non, isNon_bl, isNon_int, isNon_str, isNon_tup, isNon_fl, isNon_ref, eqW_int, eqW_bl, tr_non, tr_bl, tr_int, tr_tup, ixN_in, ixN_neg, mtW_ref, seqOf_ref, seqOf_tup, seqOf_fl, seqOf_rt, seqOf_cv, isNon_rt, isNon_cv, isTup_rt, isTup_cv, guOf_rt, guOf_cv, isTy_rt, isTy_cv, cv_eq, rt_eq, asg_rt, asg_cv, asg_var, asg_tup2, asg_tup3, isTy, guOf, isTup, intW, aug_add, aug_sub, augO_a, augO_s, lstAt_z, lstAt_s, lstAt_al, lstAt_e, lstAt_ar, Nat.sub_self, Nat.add_sub_cancel_left, Nat.reduceSubDiff, List.append_assoc, lstAt_set, lstAt_ne, toInts_ints, toInts_nil, toInts_cons, toBls_nil, toBls_cons, Option.map_some, List.set_cons_succ, List.set_cons_zero, List.getElem?_cons_zero, List.getElem?_cons_succ, List.getElem_cons_zero, List.getElem_cons_succ, List.length_cons, List.length_nil, List.length_set, List.length_append, List.length_map, List.nil_append, List.cons_append, List.append_nil, List.set_set, Nat.reduceAdd, Nat.reduceLeDiff, Nat.reduceLT, Nat.reduceSub, true_and, and_true, Bool.not_true, Bool.not_false, decide_true, decide_false, Int.reduceToNat, Int.reducePow, Int.reduceNeg, Int.cast_ofNat_Int, decide_eq_true_eq, Nat.zero_add, Nat.add_zero, Int.toNat_natCast, Int.reduceLT, Int.reduceLE, Int.reduceBNe, Int.reduceEq, Int.natCast_add, Nat.le_refl]
    exact tidy_fr ((F.app _).trans F2) T blw_int fun g F' L' => K _ _ (by omega) (by omega) F' L'
theorem cal_wp {k q p : Nat} {h : Hw} {m : Int} {Q : W → Hw → Prop} {E : Ex → Hw → Prop} (T : Tp q p h) (hm : 1 ≤ m ∧ m < 1000000)
    (K : ∀ (hd tn : List Int) (h' : Hw), (hd.length ≤ 4 ∧ 0 < tn.length ∧ tn.length ≤ 4) → ((∀ x ∈ hd, 0 ≤ x ∧ x ≤ m) ∧ ∀ x ∈ tn, 0 ≤ x ∧ x ≤ m) → 0 < tn.sum → Fr q p h h' → h'.length = h.length → Q (cv 0 hd tn) h') :
    wp (PhiN ds (k + 3) 11 [.ref p, .int m, .bl true] h) Q E := by
  have hp := T.lt
  refine go__law_curve ?_
  unfold s__law_curve
  try simp -implicitDefEqProofs -dsimp (disch := first | omega | (simp only [List.length_set, List.length_append, List.length_cons, List.length_nil, List.length_map]; omega)) only [↓wp_ok, ↓wp_err, ↓wp_exc, ↓wp_bind, ↓wp_var, ↓wp_cst, ↓wp_bin, ↓wp_neg, ↓wp_cmp, ↓wp_and, ↓wp_or, ↓wp_not, ↓wp_ite, ↓wp_tup, ↓wp_lst, ↓wp_idx, ↓wp_slc, ↓wp_call, ↓wp_bi, ↓wp_bl, ↓wp_mt, ↓wp_mk, ↓wp_lr1, ↓wp_lr2, ↓wp_aa, ↓wp_tr2, ↓wp_maxD, ↓wp_srt, ↓wp_glc, ↓wp_rgN, ↓wp_srtD, ↓wp_lc2, ↓wp_i3, ↓wp_iv, ↓mt_pp, ↓mt_ppA, ↓wp_esn, ↓wp_esc, ↓wp_pn, ↓wp_pa, ↓wp_tv, ↓wp_ta, ↓wp_to, ↓wp_tn, ↓wp_lo, ↓wp_ld, ↓wp_lc, ↓wp_tsn, ↓wp_tsc, ↓wp_io, ↓wp_i1, ↓wp_i2, ↓wp_iz, ↓wp_ie, ↓wo_some, ↓wo_none, ↓br_t, ↓br_f, ↓wps_ok, ↓wps_st, ↓wb_add, ↓wb_sub, ↓wb_mulR, ↓wb_mulL, ↓wb_div, ↓wb_mod, ↓wb_pow, ↓wb_addT, ↓wb_mulT, ↓wb_addL, ↓wb_mulLs, ↓wn_neg, ↓wc_eq, ↓wc_ne, ↓wc_lt, ↓wc_le, ↓wc_gt, ↓wc_ge, ↓wc_in, ↓wc_nin, ↓wc_isN, ↓wc_notN, ↓item_int, ↓sl_tup, ↓sl_ref, ↓bi_len, ↓bi_abs, ↓bi_int, ↓bi_intb, ↓bi_isI, ↓bi_max, ↓bi_min, ↓bi_divmod, ↓bi_lcm, ↓bi_gcd, ↓bl_sum, ↓bl_tuple, ↓bl_list, ↓bl_len, ↓bl_max, ↓bl_min, ↓mt_app, ↓mt_ext, ↓mt_ix, ↓setIt_ref, ↓ws_n, ↓ws_c, ↓ws_expr, ↓ws_asg, ↓ws_set, ↓ws_aug, ↓ws_augS, ↓ws_bad, ↓ws_if, ↓ws_for, ↓ws_whl, ↓ws_ret, ↓ws_retN, ↓ws_brk, ↓ws_cont, ↓ws_pass, ↓sq_n, ↓sq_b, ↓sq_c, ↓sq_r, ↓sq_z, ↓fin_ret, ↓fin_next, ↓fin_rz, ↓isTy_cv, ↓isTy_rt, ↓tr_cv, ↓tr_rt, look_z, look_s, rgW_rg, isNon_non, isNon_bl, isNon_int, isNon_str, isNon_tup, isNon_fl, isNon_ref, eqW_int, eqW_bl, tr_non, tr_bl, tr_int, tr_tup, ixN_in, ixN_neg, mtW_ref, seqOf_ref, seqOf_tup, seqOf_fl, seqOf_rt, seqOf_cv, isNon_rt, isNon_cv, isTup_rt, isTup_cv, guOf_rt, guOf_cv, isTy_rt, isTy_cv, cv_eq, rt_eq, asg_rt, asg_cv, asg_var, asg_tup2, asg_tup3, isTy, guOf, isTup, intW, aug_add, aug_sub, augO_a, augO_s, lstAt_z, lstAt_s, lstAt_al, lstAt_e, lstAt_ar, Nat.sub_self, Nat.add_sub_cancel_left, Nat.reduceSubDiff, List.append_assoc, lstAt_set, lstAt_ne, toInts_ints, toInts_nil, toInts_cons, toBls_nil, toBls_cons, Option.map_some, List.set_cons_succ, List.set_cons_zero, List.getElem?_cons_zero, List.getElem?_cons_succ, List.getElem_cons_zero, List.getElem_cons_succ, List.length_cons, List.length_nil, List.length_set, List.length_append, List.length_map, List.nil_append, List.cons_append, List.append_nil, List.set_set, Nat.reduceAdd, Nat.reduceLeDiff, Nat.reduceLT, Nat.reduceSub, true_and, and_true, Bool.not_true, Bool.not_false, decide_true, decide_false, Int.reduceToNat, Int.reducePow, Int.reduceNeg, Int.cast_ofNat_Int, decide_eq_true_eq, Nat.zero_add, Nat.add_zero, Int.toNat_natCast, Int.reduceLT, Int.reduceLE, Int.reduceBNe, Int.reduceEq, Int.natCast_add, Nat.le_refl]
  refine draw2 T (by omega) fun r1 g1 a1 b1 F1 L1 => ?_
  try simp -implicitDefEqProofs -dsimp (disch := first | omega | (simp only [List.length_set, List.length_append, List.length_cons, List.length_nil, List.length_map]; omega)) only [↓wp_ok, ↓wp_err, ↓wp_exc, ↓wp_bind, ↓wp_var, ↓wp_cst, ↓wp_bin, ↓wp_neg, ↓wp_cmp, ↓wp_and, ↓wp_or, ↓wp_not, ↓wp_ite, ↓wp_tup, ↓wp_lst, ↓wp_idx, ↓wp_slc, ↓wp_call, ↓wp_bi, ↓wp_bl, ↓wp_mt, ↓wp_mk, ↓wp_lr1, ↓wp_lr2, ↓wp_aa, ↓wp_tr2, ↓wp_maxD, ↓wp_srt, ↓wp_glc, ↓wp_rgN, ↓wp_srtD, ↓wp_lc2, ↓wp_i3, ↓wp_iv, ↓mt_pp, ↓mt_ppA, ↓wp_esn, ↓wp_esc, ↓wp_pn, ↓wp_pa, ↓wp_tv, ↓wp_ta, ↓wp_to, ↓wp_tn, ↓wp_lo, ↓wp_ld, ↓wp_lc, ↓wp_tsn, ↓wp_tsc, ↓wp_io, ↓wp_i1, ↓wp_i2, ↓wp_iz, ↓wp_ie, ↓wo_some, ↓wo_none, ↓br_t, ↓br_f, ↓wps_ok, ↓wps_st, ↓wb_add, ↓wb_sub, ↓wb_mulR, ↓wb_mulL, ↓wb_div, ↓wb_mod, ↓wb_pow, ↓wb_addT, ↓wb_mulT, ↓wb_addL, ↓wb_mulLs, ↓wn_neg, ↓wc_eq, ↓wc_ne, ↓wc_lt, ↓wc_le, ↓wc_gt, ↓wc_ge, ↓wc_in, ↓wc_nin, ↓wc_isN, ↓wc_notN, ↓item_int, ↓sl_tup, ↓sl_ref, ↓bi_len, ↓bi_abs, ↓bi_int, ↓bi_intb, ↓bi_isI, ↓bi_max, ↓bi_min, ↓bi_divmod, ↓bi_lcm, ↓bi_gcd, ↓bl_sum, ↓bl_tuple, ↓bl_list, ↓bl_len, ↓bl_max, ↓bl_min, ↓mt_app, ↓mt_ext, ↓mt_ix, ↓setIt_ref, ↓ws_n, ↓ws_c, ↓ws_expr, ↓ws_asg, ↓ws_set, ↓ws_aug, ↓ws_augS, ↓ws_bad, ↓ws_if, ↓ws_for, ↓ws_whl, ↓ws_ret, ↓ws_retN, ↓ws_brk, ↓ws_cont, ↓ws_pass, ↓sq_n, ↓sq_b, ↓sq_c, ↓sq_r, ↓sq_z, ↓fin_ret, ↓fin_next, ↓fin_rz, ↓isTy_cv, ↓isTy_rt, ↓tr_cv, ↓tr_rt, look_z, look_s, rgW_rg, isNon_non, isNon_bl, isNon_int, isNon_str, isNon_tup, isNon_fl, isNon_ref, eqW_int, eqW_bl, tr_non, tr_bl, tr_int, tr_tup, ixN_in, ixN_neg, mtW_ref, seqOf_ref, seqOf_tup, seqOf_fl, seqOf_rt, seqOf_cv, isNon_rt, isNon_cv, isTup_rt, isTup_cv, guOf_rt, guOf_cv, isTy_rt, isTy_cv, cv_eq, rt_eq, asg_rt, asg_cv, asg_var, asg_tup2, asg_tup3, isTy, guOf, isTup, intW, aug_add, aug_sub, augO_a, augO_s, lstAt_z, lstAt_s, lstAt_al, lstAt_e, lstAt_ar, Nat.sub_self, Nat.add_sub_cancel_left, Nat.reduceSubDiff, List.append_assoc, lstAt_set, lstAt_ne, toInts_ints, toInts_nil, toInts_cons, toBls_nil, toBls_cons, Option.map_some, List.set_cons_succ, List.set_cons_zero, List.getElem?_cons_zero, List.getElem?_cons_succ, List.getElem_cons_zero, List.getElem_cons_succ, List.length_cons, List.length_nil, List.length_set, List.length_append, List.length_map, List.nil_append, List.cons_append, List.append_nil, List.set_set, Nat.reduceAdd, Nat.reduceLeDiff, Nat.reduceLT, Nat.reduceSub, true_and, and_true, Bool.not_true, Bool.not_false, decide_true, decide_false, Int.reduceToNat, Int.reducePow, Int.reduceNeg, Int.cast_ofNat_Int, decide_eq_true_eq, Nat.zero_add, Nat.add_zero, Int.toNat_natCast, Int.reduceLT, Int.reduceLE, Int.reduceBNe, Int.reduceEq, Int.natCast_add, Nat.le_refl]
  refine draw2 (F1.tp.app _) (by omega) fun r2 g2 a2 b2 F2 L2 => ?_
  have e2 : lstAt g2 g1.length = some [.int 0, .int 0, .int 1, .int r1] := by rw [F2.lst (by simp) (by omega)]; exact (lst_new rfl (Nat.le_refl _)).trans (by rw [Nat.sub_self]; rfl)
  have F2' : Fr q p h g2 := (F1.app _).trans F2
  try simp -implicitDefEqProofs -dsimp (disch := first | omega | (simp only [List.length_set, List.length_append, List.length_cons, List.length_nil, List.length_map]; omega)) only [↓wp_ok, ↓wp_err, ↓wp_exc, ↓wp_bind, ↓wp_var, ↓wp_cst, ↓wp_bin, ↓wp_neg, ↓wp_cmp, ↓wp_and, ↓wp_or, ↓wp_not, ↓wp_ite, ↓wp_tup, ↓wp_lst, ↓wp_idx, ↓wp_slc, ↓wp_call, ↓wp_bi, ↓wp_bl, ↓wp_mt, ↓wp_mk, ↓wp_lr1, ↓wp_lr2, ↓wp_aa, ↓wp_tr2, ↓wp_maxD, ↓wp_srt, ↓wp_glc, ↓wp_rgN, ↓wp_srtD, ↓wp_lc2, ↓wp_i3, ↓wp_iv, ↓mt_pp, ↓mt_ppA, ↓wp_esn, ↓wp_esc, ↓wp_pn, ↓wp_pa, ↓wp_tv, ↓wp_ta, ↓wp_to, ↓wp_tn, ↓wp_lo, ↓wp_ld, ↓wp_lc, ↓wp_tsn, ↓wp_tsc, ↓wp_io, ↓wp_i1, ↓wp_i2, ↓wp_iz, ↓wp_ie, ↓wo_some, ↓wo_none, ↓br_t, ↓br_f, ↓wps_ok, ↓wps_st, ↓wb_add, ↓wb_sub, ↓wb_mulR, ↓wb_mulL, ↓wb_div, ↓wb_mod, ↓wb_pow, ↓wb_addT, ↓wb_mulT, ↓wb_addL, ↓wb_mulLs, ↓wn_neg, ↓wc_eq, ↓wc_ne, ↓wc_lt, ↓wc_le, ↓wc_gt, ↓wc_ge, ↓wc_in, ↓wc_nin, ↓wc_isN, ↓wc_notN, ↓item_int, ↓sl_tup, ↓sl_ref, ↓bi_len, ↓bi_abs, ↓bi_int, ↓bi_intb, ↓bi_isI, ↓bi_max, ↓bi_min, ↓bi_divmod, ↓bi_lcm, ↓bi_gcd, ↓bl_sum, ↓bl_tuple, ↓bl_list, ↓bl_len, ↓bl_max, ↓bl_min, ↓mt_app, ↓mt_ext, ↓mt_ix, ↓setIt_ref, ↓ws_n, ↓ws_c, ↓ws_expr, ↓ws_asg, ↓ws_set, ↓ws_aug, ↓ws_augS, ↓ws_bad, ↓ws_if, ↓ws_for, ↓ws_whl, ↓ws_ret, ↓ws_retN, ↓ws_brk, ↓ws_cont, ↓ws_pass, ↓sq_n, ↓sq_b, ↓sq_c, ↓sq_r, ↓sq_z, ↓fin_ret, ↓fin_next, ↓fin_rz, ↓isTy_cv, ↓isTy_rt, ↓tr_cv, ↓tr_rt, look_z, look_s, rgW_rg, isNon_non, isNon_bl, isNon_int, isNon_str, isNon_tup, isNon_fl, isNon_ref, eqW_int, eqW_bl, tr_non, tr_bl, tr_int, tr_tup, ixN_in, ixN_neg, mtW_ref, seqOf_ref, seqOf_tup, seqOf_fl, seqOf_rt, seqOf_cv, isNon_rt, isNon_cv, isTup_rt, isTup_cv, guOf_rt, guOf_cv, isTy_rt, isTy_cv, cv_eq, rt_eq, asg_rt, asg_cv, asg_var, asg_tup2, asg_tup3, isTy, guOf, isTup, intW, aug_add, aug_sub, augO_a, augO_s, lstAt_z, lstAt_s, lstAt_al, lstAt_e, lstAt_ar, Nat.sub_self, Nat.add_sub_cancel_left, Nat.reduceSubDiff, List.append_assoc, lstAt_set, lstAt_ne, toInts_ints, toInts_nil, toInts_cons, toBls_nil, toBls_cons, Option.map_some, List.set_cons_succ, List.set_cons_zero, List.getElem?_cons_zero, List.getElem?_cons_succ, List.getElem_cons_zero, List.getElem_cons_succ, List.length_cons, List.length_nil, List.length_set, List.length_append, List.length_map, List.nil_append, List.cons_append, List.append_nil, List.set_set, Nat.reduceAdd, Nat.reduceLeDiff, Nat.reduceLT, Nat.reduceSub, true_and, and_true, Bool.not_true, Bool.not_false, decide_true, decide_false, Int.reduceToNat, Int.reducePow, Int.reduceNeg, Int.cast_ofNat_Int, decide_eq_true_eq, Nat.zero_add, Nat.add_zero, Int.toNat_natCast, Int.reduceLT, Int.reduceLE, Int.reduceBNe, Int.reduceEq, Int.natCast_add, Nat.le_refl, e2]
  refine wo_pick [0, 0, 1, r1] (fun c => 0 ≤ c ∧ c ≤ 4) (by simp; omega) (by simp; omega) fun n1 hn1 => ?_
  try simp -implicitDefEqProofs -dsimp (disch := first | omega | (simp only [List.length_set, List.length_append, List.length_cons, List.length_nil, List.length_map]; omega)) only [↓wp_ok, ↓wp_err, ↓wp_exc, ↓wp_bind, ↓wp_var, ↓wp_cst, ↓wp_bin, ↓wp_neg, ↓wp_cmp, ↓wp_and, ↓wp_or, ↓wp_not, ↓wp_ite, ↓wp_tup, ↓wp_lst, ↓wp_idx, ↓wp_slc, ↓wp_call, ↓wp_bi, ↓wp_bl, ↓wp_mt, ↓wp_mk, ↓wp_lr1, ↓wp_lr2, ↓wp_aa, ↓wp_tr2, ↓wp_maxD, ↓wp_srt, ↓wp_glc, ↓wp_rgN, ↓wp_srtD, ↓wp_lc2, ↓wp_i3, ↓wp_iv, ↓mt_pp, ↓mt_ppA, ↓wp_esn, ↓wp_esc, ↓wp_pn, ↓wp_pa, ↓wp_tv, ↓wp_ta, ↓wp_to, ↓wp_tn, ↓wp_lo, ↓wp_ld, ↓wp_lc, ↓wp_tsn, ↓wp_tsc, ↓wp_io, ↓wp_i1, ↓wp_i2, ↓wp_iz, ↓wp_ie, ↓wo_some, ↓wo_none, ↓br_t, ↓br_f, ↓wps_ok, ↓wps_st, ↓wb_add, ↓wb_sub, ↓wb_mulR, ↓wb_mulL, ↓wb_div, ↓wb_mod, ↓wb_pow, ↓wb_addT, ↓wb_mulT, ↓wb_addL, ↓wb_mulLs, ↓wn_neg, ↓wc_eq, ↓wc_ne, ↓wc_lt, ↓wc_le, ↓wc_gt, ↓wc_ge, ↓wc_in, ↓wc_nin, ↓wc_isN, ↓wc_notN, ↓item_int, ↓sl_tup, ↓sl_ref, ↓bi_len, ↓bi_abs, ↓bi_int, ↓bi_intb, ↓bi_isI, ↓bi_max, ↓bi_min, ↓bi_divmod, ↓bi_lcm, ↓bi_gcd, ↓bl_sum, ↓bl_tuple, ↓bl_list, ↓bl_len, ↓bl_max, ↓bl_min, ↓mt_app, ↓mt_ext, ↓mt_ix, ↓setIt_ref, ↓ws_n, ↓ws_c, ↓ws_expr, ↓ws_asg, ↓ws_set, ↓ws_aug, ↓ws_augS, ↓ws_bad, ↓ws_if, ↓ws_for, ↓ws_whl, ↓ws_ret, ↓ws_retN, ↓ws_brk, ↓ws_cont, ↓ws_pass, ↓sq_n, ↓sq_b, ↓sq_c, ↓sq_r, ↓sq_z, ↓fin_ret, ↓fin_next, ↓fin_rz, ↓isTy_cv, ↓isTy_rt, ↓tr_cv, ↓tr_rt, look_z, look_s, rgW_rg, isNon_non, isNon_bl, isNon_int, isNon_str, isNon_tup, isNon_fl, isNon_ref, eqW_int, eqW_bl, tr_non, tr_bl, tr_int, tr_tup, ixN_in, ixN_neg, mtW_ref, seqOf_ref, seqOf_tup, seqOf_fl, seqOf_rt, seqOf_cv, isNon_rt, isNon_cv, isTup_rt, isTup_cv, guOf_rt, guOf_cv, isTy_rt, isTy_cv, cv_eq, rt_eq, asg_rt, asg_cv, asg_var, asg_tup2, asg_tup3, isTy, guOf, isTup, intW, aug_add, aug_sub, augO_a, augO_s, lstAt_z, lstAt_s, lstAt_al, lstAt_e, lstAt_ar, Nat.sub_self, Nat.add_sub_cancel_left, Nat.reduceSubDiff, List.append_assoc, lstAt_set, lstAt_ne, toInts_ints, toInts_nil, toInts_cons, toBls_nil, toBls_cons, Option.map_some, List.set_cons_succ, List.set_cons_zero, List.getElem?_cons_zero, List.getElem?_cons_succ, List.getElem_cons_zero, List.getElem_cons_succ, List.length_cons, List.length_nil, List.length_set, List.length_append, List.length_map, List.nil_append, List.cons_append, List.append_nil, List.set_set, Nat.reduceAdd, Nat.reduceLeDiff, Nat.reduceLT, Nat.reduceSub, true_and, and_true, Bool.not_true, Bool.not_false, decide_true, decide_false, Int.reduceToNat, Int.reducePow, Int.reduceNeg, Int.cast_ofNat_Int, decide_eq_true_eq, Nat.zero_add, Nat.add_zero, Int.toNat_natCast, Int.reduceLT, Int.reduceLE, Int.reduceBNe, Int.reduceEq, Int.natCast_add, Nat.le_refl]
  refine ⟨by omega, ?_⟩
  refine comp_ints (fun x => 0 ≤ x ∧ x ≤ m) F2'.tp (by omega) (fun i g hi T' L' => ?_) fun hd g3 hl3 hx3 F3 L3 => ?_
  · try simp -implicitDefEqProofs -dsimp (disch := first | omega | (simp only [List.length_set, List.length_append, List.length_cons, List.length_nil, List.length_map]; omega)) only [↓wp_ok, ↓wp_err, ↓wp_exc, ↓wp_bind, ↓wp_var, ↓wp_cst, ↓wp_bin, ↓wp_neg, ↓wp_cmp, ↓wp_and, ↓wp_or, ↓wp_not, ↓wp_ite, ↓wp_tup, ↓wp_lst, ↓wp_idx, ↓wp_slc, ↓wp_call, ↓wp_bi, ↓wp_bl, ↓wp_mt, ↓wp_mk, ↓wp_lr1, ↓wp_lr2, ↓wp_aa, ↓wp_tr2, ↓wp_maxD, ↓wp_srt, ↓wp_glc, ↓wp_rgN, ↓wp_srtD, ↓wp_lc2, ↓wp_i3, ↓wp_iv, ↓mt_pp, ↓mt_ppA, ↓wp_esn, ↓wp_esc, ↓wp_pn, ↓wp_pa, ↓wp_tv, ↓wp_ta, ↓wp_to, ↓wp_tn, ↓wp_lo, ↓wp_ld, ↓wp_lc, ↓wp_tsn, ↓wp_tsc, ↓wp_io, ↓wp_i1, ↓wp_i2, ↓wp_iz, ↓wp_ie, ↓wo_some, ↓wo_none, ↓br_t, ↓br_f, ↓wps_ok, ↓wps_st, ↓wb_add, ↓wb_sub, ↓wb_mulR, ↓wb_mulL, ↓wb_div, ↓wb_mod, ↓wb_pow, ↓wb_addT, ↓wb_mulT, ↓wb_addL, ↓wb_mulLs, ↓wn_neg, ↓wc_eq, ↓wc_ne, ↓wc_lt, ↓wc_le, ↓wc_gt, ↓wc_ge, ↓wc_in, ↓wc_nin, ↓wc_isN, ↓wc_notN, ↓item_int, ↓sl_tup, ↓sl_ref, ↓bi_len, ↓bi_abs, ↓bi_int, ↓bi_intb, ↓bi_isI, ↓bi_max, ↓bi_min, ↓bi_divmod, ↓bi_lcm, ↓bi_gcd, ↓bl_sum, ↓bl_tuple, ↓bl_list, ↓bl_len, ↓bl_max, ↓bl_min, ↓mt_app, ↓mt_ext, ↓mt_ix, ↓setIt_ref, ↓ws_n, ↓ws_c, ↓ws_expr, ↓ws_asg, ↓ws_set, ↓ws_aug, ↓ws_augS, ↓ws_bad, ↓ws_if, ↓ws_for, ↓ws_whl, ↓ws_ret, ↓ws_retN, ↓ws_brk, ↓ws_cont, ↓ws_pass, ↓sq_n, ↓sq_b, ↓sq_c, ↓sq_r, ↓sq_z, ↓fin_ret, ↓fin_next, ↓fin_rz, ↓isTy_cv, ↓isTy_rt, ↓tr_cv, ↓tr_rt, look_z, look_s, rgW_rg, isNon_non, isNon_bl, isNon_int, isNon_str, isNon_tup, isNon_fl, isNon_ref, eqW_int, eqW_bl, tr_non, tr_bl, tr_int, tr_tup, ixN_in, ixN_neg, mtW_ref, seqOf_ref, seqOf_tup, seqOf_fl, seqOf_rt, seqOf_cv, isNon_rt, isNon_cv, isTup_rt, isTup_cv, guOf_rt, guOf_cv, isTy_rt, isTy_cv, cv_eq, rt_eq, asg_rt, asg_cv, asg_var, asg_tup2, asg_tup3, isTy, guOf, isTup, intW, aug_add, aug_sub, augO_a, augO_s, lstAt_z, lstAt_s, lstAt_al, lstAt_e, lstAt_ar, Nat.sub_self, Nat.add_sub_cancel_left, Nat.reduceSubDiff, List.append_assoc, lstAt_set, lstAt_ne, toInts_ints, toInts_nil, toInts_cons, toBls_nil, toBls_cons, Option.map_some, List.set_cons_succ, List.set_cons_zero, List.getElem?_cons_zero, List.getElem?_cons_succ, List.getElem_cons_zero, List.getElem_cons_succ, List.length_cons, List.length_nil, List.length_set, List.length_append, List.length_map, List.nil_append, List.cons_append, List.append_nil, List.set_set, Nat.reduceAdd, Nat.reduceLeDiff, Nat.reduceLT, Nat.reduceSub, true_and, and_true, Bool.not_true, Bool.not_false, decide_true, decide_false, Int.reduceToNat, Int.reducePow, Int.reduceNeg, Int.cast_ofNat_Int, decide_eq_true_eq, Nat.zero_add, Nat.add_zero, Int.toNat_natCast, Int.reduceLT, Int.reduceLE, Int.reduceBNe, Int.reduceEq, Int.natCast_add, Nat.le_refl, wipe, c__law_curve_1]
    exact rise_wp T' hm fun r g' x1 x2 F L => ⟨r, rfl, ⟨x1, x2⟩, F, L⟩
  try simp -implicitDefEqProofs -dsimp (disch := first | omega | (simp only [List.length_set, List.length_append, List.length_cons, List.length_nil, List.length_map]; omega)) only [↓wp_ok, ↓wp_err, ↓wp_exc, ↓wp_bind, ↓wp_var, ↓wp_cst, ↓wp_bin, ↓wp_neg, ↓wp_cmp, ↓wp_and, ↓wp_or, ↓wp_not, ↓wp_ite, ↓wp_tup, ↓wp_lst, ↓wp_idx, ↓wp_slc, ↓wp_call, ↓wp_bi, ↓wp_bl, ↓wp_mt, ↓wp_mk, ↓wp_lr1, ↓wp_lr2, ↓wp_aa, ↓wp_tr2, ↓wp_maxD, ↓wp_srt, ↓wp_glc, ↓wp_rgN, ↓wp_srtD, ↓wp_lc2, ↓wp_i3, ↓wp_iv, ↓mt_pp, ↓mt_ppA, ↓wp_esn, ↓wp_esc, ↓wp_pn, ↓wp_pa, ↓wp_tv, ↓wp_ta, ↓wp_to, ↓wp_tn, ↓wp_lo, ↓wp_ld, ↓wp_lc, ↓wp_tsn, ↓wp_tsc, ↓wp_io, ↓wp_i1, ↓wp_i2, ↓wp_iz, ↓wp_ie, ↓wo_some, ↓wo_none, ↓br_t, ↓br_f, ↓wps_ok, ↓wps_st, ↓wb_add, ↓wb_sub, ↓wb_mulR, ↓wb_mulL, ↓wb_div, ↓wb_mod, ↓wb_pow, ↓wb_addT, ↓wb_mulT, ↓wb_addL, ↓wb_mulLs, ↓wn_neg, ↓wc_eq, ↓wc_ne, ↓wc_lt, ↓wc_le, ↓wc_gt, ↓wc_ge, ↓wc_in, ↓wc_nin, ↓wc_isN, ↓wc_notN, ↓item_int, ↓sl_tup, ↓sl_ref, ↓bi_len, ↓bi_abs, ↓bi_int, ↓bi_intb, ↓bi_isI, ↓bi_max, ↓bi_min, ↓bi_divmod, ↓bi_lcm, ↓bi_gcd, ↓bl_sum, ↓bl_tuple, ↓bl_list, ↓bl_len, ↓bl_max, ↓bl_min, ↓mt_app, ↓mt_ext, ↓mt_ix, ↓setIt_ref, ↓ws_n, ↓ws_c, ↓ws_expr, ↓ws_asg, ↓ws_set, ↓ws_aug, ↓ws_augS, ↓ws_bad, ↓ws_if, ↓ws_for, ↓ws_whl, ↓ws_ret, ↓ws_retN, ↓ws_brk, ↓ws_cont, ↓ws_pass, ↓sq_n, ↓sq_b, ↓sq_c, ↓sq_r, ↓sq_z, ↓fin_ret, ↓fin_next, ↓fin_rz, ↓isTy_cv, ↓isTy_rt, ↓tr_cv, ↓tr_rt, look_z, look_s, rgW_rg, isNon_non, isNon_bl, isNon_int, isNon_str, isNon_tup, isNon_fl, isNon_ref, eqW_int, eqW_bl, tr_non, tr_bl, tr_int, tr_tup, ixN_in, ixN_neg, mtW_ref, seqOf_ref, seqOf_tup, seqOf_fl, seqOf_rt, seqOf_cv, isNon_rt, isNon_cv, isTup_rt, isTup_cv, guOf_rt, guOf_cv, isTy_rt, isTy_cv, cv_eq, rt_eq, asg_rt, asg_cv, asg_var, asg_tup2, asg_tup3, isTy, guOf, isTup, intW, aug_add, aug_sub, augO_a, augO_s, lstAt_z, lstAt_s, lstAt_al, lstAt_e, lstAt_ar, Nat.sub_self, Nat.add_sub_cancel_left, Nat.reduceSubDiff, List.append_assoc, lstAt_set, lstAt_ne, toInts_ints, toInts_nil, toInts_cons, toBls_nil, toBls_cons, Option.map_some, List.set_cons_succ, List.set_cons_zero, List.getElem?_cons_zero, List.getElem?_cons_succ, List.getElem_cons_zero, List.getElem_cons_succ, List.length_cons, List.length_nil, List.length_set, List.length_append, List.length_map, List.nil_append, List.cons_append, List.append_nil, List.set_set, Nat.reduceAdd, Nat.reduceLeDiff, Nat.reduceLT, Nat.reduceSub, true_and, and_true, Bool.not_true, Bool.not_false, decide_true, decide_false, Int.reduceToNat, Int.reducePow, Int.reduceNeg, Int.cast_ofNat_Int, decide_eq_true_eq, Nat.zero_add, Nat.add_zero, Int.toNat_natCast, Int.reduceLT, Int.reduceLE, Int.reduceBNe, Int.reduceEq, Int.natCast_add, Nat.le_refl]
  refine draw2 F3.tp (by omega) fun r4 g4 a4 b4 F4 L4 => ?_
  try simp -implicitDefEqProofs -dsimp (disch := first | omega | (simp only [List.length_set, List.length_append, List.length_cons, List.length_nil, List.length_map]; omega)) only [↓wp_ok, ↓wp_err, ↓wp_exc, ↓wp_bind, ↓wp_var, ↓wp_cst, ↓wp_bin, ↓wp_neg, ↓wp_cmp, ↓wp_and, ↓wp_or, ↓wp_not, ↓wp_ite, ↓wp_tup, ↓wp_lst, ↓wp_idx, ↓wp_slc, ↓wp_call, ↓wp_bi, ↓wp_bl, ↓wp_mt, ↓wp_mk, ↓wp_lr1, ↓wp_lr2, ↓wp_aa, ↓wp_tr2, ↓wp_maxD, ↓wp_srt, ↓wp_glc, ↓wp_rgN, ↓wp_srtD, ↓wp_lc2, ↓wp_i3, ↓wp_iv, ↓mt_pp, ↓mt_ppA, ↓wp_esn, ↓wp_esc, ↓wp_pn, ↓wp_pa, ↓wp_tv, ↓wp_ta, ↓wp_to, ↓wp_tn, ↓wp_lo, ↓wp_ld, ↓wp_lc, ↓wp_tsn, ↓wp_tsc, ↓wp_io, ↓wp_i1, ↓wp_i2, ↓wp_iz, ↓wp_ie, ↓wo_some, ↓wo_none, ↓br_t, ↓br_f, ↓wps_ok, ↓wps_st, ↓wb_add, ↓wb_sub, ↓wb_mulR, ↓wb_mulL, ↓wb_div, ↓wb_mod, ↓wb_pow, ↓wb_addT, ↓wb_mulT, ↓wb_addL, ↓wb_mulLs, ↓wn_neg, ↓wc_eq, ↓wc_ne, ↓wc_lt, ↓wc_le, ↓wc_gt, ↓wc_ge, ↓wc_in, ↓wc_nin, ↓wc_isN, ↓wc_notN, ↓item_int, ↓sl_tup, ↓sl_ref, ↓bi_len, ↓bi_abs, ↓bi_int, ↓bi_intb, ↓bi_isI, ↓bi_max, ↓bi_min, ↓bi_divmod, ↓bi_lcm, ↓bi_gcd, ↓bl_sum, ↓bl_tuple, ↓bl_list, ↓bl_len, ↓bl_max, ↓bl_min, ↓mt_app, ↓mt_ext, ↓mt_ix, ↓setIt_ref, ↓ws_n, ↓ws_c, ↓ws_expr, ↓ws_asg, ↓ws_set, ↓ws_aug, ↓ws_augS, ↓ws_bad, ↓ws_if, ↓ws_for, ↓ws_whl, ↓ws_ret, ↓ws_retN, ↓ws_brk, ↓ws_cont, ↓ws_pass, ↓sq_n, ↓sq_b, ↓sq_c, ↓sq_r, ↓sq_z, ↓fin_ret, ↓fin_next, ↓fin_rz, ↓isTy_cv, ↓isTy_rt, ↓tr_cv, ↓tr_rt, look_z, look_s, rgW_rg, isNon_non, isNon_bl, isNon_int, isNon_str, isNon_tup, isNon_fl, isNon_ref, eqW_int, eqW_bl, tr_non, tr_bl, tr_int, tr_tup, ixN_in, ixN_neg, mtW_ref, seqOf_ref, seqOf_tup, seqOf_fl, seqOf_rt, seqOf_cv, isNon_rt, isNon_cv, isTup_rt, isTup_cv, guOf_rt, guOf_cv, isTy_rt, isTy_cv, cv_eq, rt_eq, asg_rt, asg_cv, asg_var, asg_tup2, asg_tup3, isTy, guOf, isTup, intW, aug_add, aug_sub, augO_a, augO_s, lstAt_z, lstAt_s, lstAt_al, lstAt_e, lstAt_ar, Nat.sub_self, Nat.add_sub_cancel_left, Nat.reduceSubDiff, List.append_assoc, lstAt_set, lstAt_ne, toInts_ints, toInts_nil, toInts_cons, toBls_nil, toBls_cons, Option.map_some, List.set_cons_succ, List.set_cons_zero, List.getElem?_cons_zero, List.getElem?_cons_succ, List.getElem_cons_zero, List.getElem_cons_succ, List.length_cons, List.length_nil, List.length_set, List.length_append, List.length_map, List.nil_append, List.cons_append, List.append_nil, List.set_set, Nat.reduceAdd, Nat.reduceLeDiff, Nat.reduceLT, Nat.reduceSub, true_and, and_true, Bool.not_true, Bool.not_false, decide_true, decide_false, Int.reduceToNat, Int.reducePow, Int.reduceNeg, Int.cast_ofNat_Int, decide_eq_true_eq, Nat.zero_add, Nat.add_zero, Int.toNat_natCast, Int.reduceLT, Int.reduceLE, Int.reduceBNe, Int.reduceEq, Int.natCast_add, Nat.le_refl]
  refine draw2 (F4.tp.app _) (by omega) fun r5 g5 a5 b5 F5 L5 => ?_
  have L5' : g5.length = g4.length + 1 := by rw [L5]; simp
  have hp4 := F4.tp.lt
  have e5 : lstAt g5 g4.length = some [.int 1, .int 1, .int 2, .int (1 + r4)] := by rw [F5.lst (by simp) (by omega)]; exact (lst_new rfl (Nat.le_refl _)).trans (by rw [Nat.sub_self]; rfl)
  have F5' : Fr q p h g5 := ((F2'.trans F3).trans F4).trans ((Fr.refl F4.tp).app _ |>.trans F5)
  try simp -implicitDefEqProofs -dsimp (disch := first | omega | (simp only [List.length_set, List.length_append, List.length_cons, List.length_nil, List.length_map]; omega)) only [↓wp_ok, ↓wp_err, ↓wp_exc, ↓wp_bind, ↓wp_var, ↓wp_cst, ↓wp_bin, ↓wp_neg, ↓wp_cmp, ↓wp_and, ↓wp_or, ↓wp_not, ↓wp_ite, ↓wp_tup, ↓wp_lst, ↓wp_idx, ↓wp_slc, ↓wp_call, ↓wp_bi, ↓wp_bl, ↓wp_mt, ↓wp_mk, ↓wp_lr1, ↓wp_lr2, ↓wp_aa, ↓wp_tr2, ↓wp_maxD, ↓wp_srt, ↓wp_glc, ↓wp_rgN, ↓wp_srtD, ↓wp_lc2, ↓wp_i3, ↓wp_iv, ↓mt_pp, ↓mt_ppA, ↓wp_esn, ↓wp_esc, ↓wp_pn, ↓wp_pa, ↓wp_tv, ↓wp_ta, ↓wp_to, ↓wp_tn, ↓wp_lo, ↓wp_ld, ↓wp_lc, ↓wp_tsn, ↓wp_tsc, ↓wp_io, ↓wp_i1, ↓wp_i2, ↓wp_iz, ↓wp_ie, ↓wo_some, ↓wo_none, ↓br_t, ↓br_f, ↓wps_ok, ↓wps_st, ↓wb_add, ↓wb_sub, ↓wb_mulR, ↓wb_mulL, ↓wb_div, ↓wb_mod, ↓wb_pow, ↓wb_addT, ↓wb_mulT, ↓wb_addL, ↓wb_mulLs, ↓wn_neg, ↓wc_eq, ↓wc_ne, ↓wc_lt, ↓wc_le, ↓wc_gt, ↓wc_ge, ↓wc_in, ↓wc_nin, ↓wc_isN, ↓wc_notN, ↓item_int, ↓sl_tup, ↓sl_ref, ↓bi_len, ↓bi_abs, ↓bi_int, ↓bi_intb, ↓bi_isI, ↓bi_max, ↓bi_min, ↓bi_divmod, ↓bi_lcm, ↓bi_gcd, ↓bl_sum, ↓bl_tuple, ↓bl_list, ↓bl_len, ↓bl_max, ↓bl_min, ↓mt_app, ↓mt_ext, ↓mt_ix, ↓setIt_ref, ↓ws_n, ↓ws_c, ↓ws_expr, ↓ws_asg, ↓ws_set, ↓ws_aug, ↓ws_augS, ↓ws_bad, ↓ws_if, ↓ws_for, ↓ws_whl, ↓ws_ret, ↓ws_retN, ↓ws_brk, ↓ws_cont, ↓ws_pass, ↓sq_n, ↓sq_b, ↓sq_c, ↓sq_r, ↓sq_z, ↓fin_ret, ↓fin_next, ↓fin_rz, ↓isTy_cv, ↓isTy_rt, ↓tr_cv, ↓tr_rt, look_z, look_s, rgW_rg, isNon_non, isNon_bl, isNon_int, isNon_str, isNon_tup, isNon_fl, isNon_ref, eqW_int, eqW_bl, tr_non, tr_bl, tr_int, tr_tup, ixN_in, ixN_neg, mtW_ref, seqOf_ref, seqOf_tup, seqOf_fl, seqOf_rt, seqOf_cv, isNon_rt, isNon_cv, isTup_rt, isTup_cv, guOf_rt, guOf_cv, isTy_rt, isTy_cv, cv_eq, rt_eq, asg_rt, asg_cv, asg_var, asg_tup2, asg_tup3, isTy, guOf, isTup, intW, aug_add, aug_sub, augO_a, augO_s, lstAt_z, lstAt_s, lstAt_al, lstAt_e, lstAt_ar, Nat.sub_self, Nat.add_sub_cancel_left, Nat.reduceSubDiff, List.append_assoc, lstAt_set, lstAt_ne, toInts_ints, toInts_nil, toInts_cons, toBls_nil, toBls_cons, Option.map_some, List.set_cons_succ, List.set_cons_zero, List.getElem?_cons_zero, List.getElem?_cons_succ, List.getElem_cons_zero, List.getElem_cons_succ, List.length_cons, List.length_nil, List.length_set, List.length_append, List.length_map, List.nil_append, List.cons_append, List.append_nil, List.set_set, Nat.reduceAdd, Nat.reduceLeDiff, Nat.reduceLT, Nat.reduceSub, true_and, and_true, Bool.not_true, Bool.not_false, decide_true, decide_false, Int.reduceToNat, Int.reducePow, Int.reduceNeg, Int.cast_ofNat_Int, decide_eq_true_eq, Nat.zero_add, Nat.add_zero, Int.toNat_natCast, Int.reduceLT, Int.reduceLE, Int.reduceBNe, Int.reduceEq, Int.natCast_add, Nat.le_refl, e5]
  refine wo_pick [1, 1, 2, 1 + r4] (fun c => 1 ≤ c ∧ c ≤ 4) (by simp; omega) (by simp; omega) fun n2 hn2 => ?_
  try simp -implicitDefEqProofs -dsimp (disch := first | omega | (simp only [List.length_set, List.length_append, List.length_cons, List.length_nil, List.length_map]; omega)) only [↓wp_ok, ↓wp_err, ↓wp_exc, ↓wp_bind, ↓wp_var, ↓wp_cst, ↓wp_bin, ↓wp_neg, ↓wp_cmp, ↓wp_and, ↓wp_or, ↓wp_not, ↓wp_ite, ↓wp_tup, ↓wp_lst, ↓wp_idx, ↓wp_slc, ↓wp_call, ↓wp_bi, ↓wp_bl, ↓wp_mt, ↓wp_mk, ↓wp_lr1, ↓wp_lr2, ↓wp_aa, ↓wp_tr2, ↓wp_maxD, ↓wp_srt, ↓wp_glc, ↓wp_rgN, ↓wp_srtD, ↓wp_lc2, ↓wp_i3, ↓wp_iv, ↓mt_pp, ↓mt_ppA, ↓wp_esn, ↓wp_esc, ↓wp_pn, ↓wp_pa, ↓wp_tv, ↓wp_ta, ↓wp_to, ↓wp_tn, ↓wp_lo, ↓wp_ld, ↓wp_lc, ↓wp_tsn, ↓wp_tsc, ↓wp_io, ↓wp_i1, ↓wp_i2, ↓wp_iz, ↓wp_ie, ↓wo_some, ↓wo_none, ↓br_t, ↓br_f, ↓wps_ok, ↓wps_st, ↓wb_add, ↓wb_sub, ↓wb_mulR, ↓wb_mulL, ↓wb_div, ↓wb_mod, ↓wb_pow, ↓wb_addT, ↓wb_mulT, ↓wb_addL, ↓wb_mulLs, ↓wn_neg, ↓wc_eq, ↓wc_ne, ↓wc_lt, ↓wc_le, ↓wc_gt, ↓wc_ge, ↓wc_in, ↓wc_nin, ↓wc_isN, ↓wc_notN, ↓item_int, ↓sl_tup, ↓sl_ref, ↓bi_len, ↓bi_abs, ↓bi_int, ↓bi_intb, ↓bi_isI, ↓bi_max, ↓bi_min, ↓bi_divmod, ↓bi_lcm, ↓bi_gcd, ↓bl_sum, ↓bl_tuple, ↓bl_list, ↓bl_len, ↓bl_max, ↓bl_min, ↓mt_app, ↓mt_ext, ↓mt_ix, ↓setIt_ref, ↓ws_n, ↓ws_c, ↓ws_expr, ↓ws_asg, ↓ws_set, ↓ws_aug, ↓ws_augS, ↓ws_bad, ↓ws_if, ↓ws_for, ↓ws_whl, ↓ws_ret, ↓ws_retN, ↓ws_brk, ↓ws_cont, ↓ws_pass, ↓sq_n, ↓sq_b, ↓sq_c, ↓sq_r, ↓sq_z, ↓fin_ret, ↓fin_next, ↓fin_rz, ↓isTy_cv, ↓isTy_rt, ↓tr_cv, ↓tr_rt, look_z, look_s, rgW_rg, isNon_non, isNon_bl, isNon_int, isNon_str, isNon_tup, isNon_fl, isNon_ref, eqW_int, eqW_bl, tr_non, tr_bl, tr_int, tr_tup, ixN_in, ixN_neg, mtW_ref, seqOf_ref, seqOf_tup, seqOf_fl, seqOf_rt, seqOf_cv, isNon_rt, isNon_cv, isTup_rt, isTup_cv, guOf_rt, guOf_cv, isTy_rt, isTy_cv, cv_eq, rt_eq, asg_rt, asg_cv, asg_var, asg_tup2, asg_tup3, isTy, guOf, isTup, intW, aug_add, aug_sub, augO_a, augO_s, lstAt_z, lstAt_s, lstAt_al, lstAt_e, lstAt_ar, Nat.sub_self, Nat.add_sub_cancel_left, Nat.reduceSubDiff, List.append_assoc, lstAt_set, lstAt_ne, toInts_ints, toInts_nil, toInts_cons, toBls_nil, toBls_cons, Option.map_some, List.set_cons_succ, List.set_cons_zero, List.getElem?_cons_zero, List.getElem?_cons_succ, List.getElem_cons_zero, List.getElem_cons_succ, List.length_cons, List.length_nil, List.length_set, List.length_append, List.length_map, List.nil_append, List.cons_append, List.append_nil, List.set_set, Nat.reduceAdd, Nat.reduceLeDiff, Nat.reduceLT, Nat.reduceSub, true_and, and_true, Bool.not_true, Bool.not_false, decide_true, decide_false, Int.reduceToNat, Int.reducePow, Int.reduceNeg, Int.cast_ofNat_Int, decide_eq_true_eq, Nat.zero_add, Nat.add_zero, Int.toNat_natCast, Int.reduceLT, Int.reduceLE, Int.reduceBNe, Int.reduceEq, Int.natCast_add, Nat.le_refl]
  refine ⟨by omega, ?_⟩
  refine comp_ints (fun x => 0 ≤ x ∧ x ≤ m) F5'.tp (by omega) (fun i g hi T' L' => ?_) fun tn g6 hl6 hx6 F6 L6 => ?_
  · try simp -implicitDefEqProofs -dsimp (disch := first | omega | (simp only [List.length_set, List.length_append, List.length_cons, List.length_nil, List.length_map]; omega)) only [↓wp_ok, ↓wp_err, ↓wp_exc, ↓wp_bind, ↓wp_var, ↓wp_cst, ↓wp_bin, ↓wp_neg, ↓wp_cmp, ↓wp_and, ↓wp_or, ↓wp_not, ↓wp_ite, ↓wp_tup, ↓wp_lst, ↓wp_idx, ↓wp_slc, ↓wp_call, ↓wp_bi, ↓wp_bl, ↓wp_mt, ↓wp_mk, ↓wp_lr1, ↓wp_lr2, ↓wp_aa, ↓wp_tr2, ↓wp_maxD, ↓wp_srt, ↓wp_glc, ↓wp_rgN, ↓wp_srtD, ↓wp_lc2, ↓wp_i3, ↓wp_iv, ↓mt_pp, ↓mt_ppA, ↓wp_esn, ↓wp_esc, ↓wp_pn, ↓wp_pa, ↓wp_tv, ↓wp_ta, ↓wp_to, ↓wp_tn, ↓wp_lo, ↓wp_ld, ↓wp_lc, ↓wp_tsn, ↓wp_tsc, ↓wp_io, ↓wp_i1, ↓wp_i2, ↓wp_iz, ↓wp_ie, ↓wo_some, ↓wo_none, ↓br_t, ↓br_f, ↓wps_ok, ↓wps_st, ↓wb_add, ↓wb_sub, ↓wb_mulR, ↓wb_mulL, ↓wb_div, ↓wb_mod, ↓wb_pow, ↓wb_addT, ↓wb_mulT, ↓wb_addL, ↓wb_mulLs, ↓wn_neg, ↓wc_eq, ↓wc_ne, ↓wc_lt, ↓wc_le, ↓wc_gt, ↓wc_ge, ↓wc_in, ↓wc_nin, ↓wc_isN, ↓wc_notN, ↓item_int, ↓sl_tup, ↓sl_ref, ↓bi_len, ↓bi_abs, ↓bi_int, ↓bi_intb, ↓bi_isI, ↓bi_max, ↓bi_min, ↓bi_divmod, ↓bi_lcm, ↓bi_gcd, ↓bl_sum, ↓bl_tuple, ↓bl_list, ↓bl_len, ↓bl_max, ↓bl_min, ↓mt_app, ↓mt_ext, ↓mt_ix, ↓setIt_ref, ↓ws_n, ↓ws_c, ↓ws_expr, ↓ws_asg, ↓ws_set, ↓ws_aug, ↓ws_augS, ↓ws_bad, ↓ws_if, ↓ws_for, ↓ws_whl, ↓ws_ret, ↓ws_retN, ↓ws_brk, ↓ws_cont, ↓ws_pass, ↓sq_n, ↓sq_b, ↓sq_c, ↓sq_r, ↓sq_z, ↓fin_ret, ↓fin_next, ↓fin_rz, ↓isTy_cv, ↓isTy_rt, ↓tr_cv, ↓tr_rt, look_z, look_s, rgW_rg, isNon_non, isNon_bl, isNon_int, isNon_str, isNon_tup, isNon_fl, isNon_ref, eqW_int, eqW_bl, tr_non, tr_bl, tr_int, tr_tup, ixN_in, ixN_neg, mtW_ref, seqOf_ref, seqOf_tup, seqOf_fl, seqOf_rt, seqOf_cv, isNon_rt, isNon_cv, isTup_rt, isTup_cv, guOf_rt, guOf_cv, isTy_rt, isTy_cv, cv_eq, rt_eq, asg_rt, asg_cv, asg_var, asg_tup2, asg_tup3, isTy, guOf, isTup, intW, aug_add, aug_sub, augO_a, augO_s, lstAt_z, lstAt_s, lstAt_al, lstAt_e, lstAt_ar, Nat.sub_self, Nat.add_sub_cancel_left, Nat.reduceSubDiff, List.append_assoc, lstAt_set, lstAt_ne, toInts_ints, toInts_nil, toInts_cons, toBls_nil, toBls_cons, Option.map_some, List.set_cons_succ, List.set_cons_zero, List.getElem?_cons_zero, List.getElem?_cons_succ, List.getElem_cons_zero, List.getElem_cons_succ, List.length_cons, List.length_nil, List.length_set, List.length_append, List.length_map, List.nil_append, List.cons_append, List.append_nil, List.set_set, Nat.reduceAdd, Nat.reduceLeDiff, Nat.reduceLT, Nat.reduceSub, true_and, and_true, Bool.not_true, Bool.not_false, decide_true, decide_false, Int.reduceToNat, Int.reducePow, Int.reduceNeg, Int.cast_ofNat_Int, decide_eq_true_eq, Nat.zero_add, Nat.add_zero, Int.toNat_natCast, Int.reduceLT, Int.reduceLE, Int.reduceBNe, Int.reduceEq, Int.natCast_add, Nat.le_refl, wipe, c__law_curve_2]
    exact rise_wp T' hm fun r g' x1 x2 F L => ⟨r, rfl, ⟨x1, x2⟩, F, L⟩
  have F6' : Fr q p h g6 := F5'.trans F6
  have hp6 := F6.tp.lt
  have len6 := F6'.len
  have tb := sum_bd m tn hx6
  try simp -implicitDefEqProofs -dsimp (disch := first | omega | (simp only [List.length_set, List.length_append, List.length_cons, List.length_nil, List.length_map]; omega)) only [↓wp_ok, ↓wp_err, ↓wp_exc, ↓wp_bind, ↓wp_var, ↓wp_cst, ↓wp_bin, ↓wp_neg, ↓wp_cmp, ↓wp_and, ↓wp_or, ↓wp_not, ↓wp_ite, ↓wp_tup, ↓wp_lst, ↓wp_idx, ↓wp_slc, ↓wp_call, ↓wp_bi, ↓wp_bl, ↓wp_mt, ↓wp_mk, ↓wp_lr1, ↓wp_lr2, ↓wp_aa, ↓wp_tr2, ↓wp_maxD, ↓wp_srt, ↓wp_glc, ↓wp_rgN, ↓wp_srtD, ↓wp_lc2, ↓wp_i3, ↓wp_iv, ↓mt_pp, ↓mt_ppA, ↓wp_esn, ↓wp_esc, ↓wp_pn, ↓wp_pa, ↓wp_tv, ↓wp_ta, ↓wp_to, ↓wp_tn, ↓wp_lo, ↓wp_ld, ↓wp_lc, ↓wp_tsn, ↓wp_tsc, ↓wp_io, ↓wp_i1, ↓wp_i2, ↓wp_iz, ↓wp_ie, ↓wo_some, ↓wo_none, ↓br_t, ↓br_f, ↓wps_ok, ↓wps_st, ↓wb_add, ↓wb_sub, ↓wb_mulR, ↓wb_mulL, ↓wb_div, ↓wb_mod, ↓wb_pow, ↓wb_addT, ↓wb_mulT, ↓wb_addL, ↓wb_mulLs, ↓wn_neg, ↓wc_eq, ↓wc_ne, ↓wc_lt, ↓wc_le, ↓wc_gt, ↓wc_ge, ↓wc_in, ↓wc_nin, ↓wc_isN, ↓wc_notN, ↓item_int, ↓sl_tup, ↓sl_ref, ↓bi_len, ↓bi_abs, ↓bi_int, ↓bi_intb, ↓bi_isI, ↓bi_max, ↓bi_min, ↓bi_divmod, ↓bi_lcm, ↓bi_gcd, ↓bl_sum, ↓bl_tuple, ↓bl_list, ↓bl_len, ↓bl_max, ↓bl_min, ↓mt_app, ↓mt_ext, ↓mt_ix, ↓setIt_ref, ↓ws_n, ↓ws_c, ↓ws_expr, ↓ws_asg, ↓ws_set, ↓ws_aug, ↓ws_augS, ↓ws_bad, ↓ws_if, ↓ws_for, ↓ws_whl, ↓ws_ret, ↓ws_retN, ↓ws_brk, ↓ws_cont, ↓ws_pass, ↓sq_n, ↓sq_b, ↓sq_c, ↓sq_r, ↓sq_z, ↓fin_ret, ↓fin_next, ↓fin_rz, ↓isTy_cv, ↓isTy_rt, ↓tr_cv, ↓tr_rt, look_z, look_s, rgW_rg, isNon_non, isNon_bl, isNon_int, isNon_str, isNon_tup, isNon_fl, isNon_ref, eqW_int, eqW_bl, tr_non, tr_bl, tr_int, tr_tup, ixN_in, ixN_neg, mtW_ref, seqOf_ref, seqOf_tup, seqOf_fl, seqOf_rt, seqOf_cv, isNon_rt, isNon_cv, isTup_rt, isTup_cv, guOf_rt, guOf_cv, isTy_rt, isTy_cv, cv_eq, rt_eq, asg_rt, asg_cv, asg_var, asg_tup2, asg_tup3, isTy, guOf, isTup, intW, aug_add, aug_sub, augO_a, augO_s, lstAt_z, lstAt_s, lstAt_al, lstAt_e, lstAt_ar, Nat.sub_self, Nat.add_sub_cancel_left, Nat.reduceSubDiff, List.append_assoc, lstAt_set, lstAt_ne, toInts_ints, toInts_nil, toInts_cons, toBls_nil, toBls_cons, Option.map_some, List.set_cons_succ, List.set_cons_zero, List.getElem?_cons_zero, List.getElem?_cons_succ, List.getElem_cons_zero, List.getElem_cons_succ, List.length_cons, List.length_nil, List.length_set, List.length_append, List.length_map, List.nil_append, List.cons_append, List.append_nil, List.set_set, Nat.reduceAdd, Nat.reduceLeDiff, Nat.reduceLT, Nat.reduceSub, true_and, and_true, Bool.not_true, Bool.not_false, decide_true, decide_false, Int.reduceToNat, Int.reducePow, Int.reduceNeg, Int.cast_ofNat_Int, decide_eq_true_eq, Nat.zero_add, Nat.add_zero, Int.toNat_natCast, Int.reduceLT, Int.reduceLE, Int.reduceBNe, Int.reduceEq, Int.natCast_add, Nat.le_refl]
  refine br_intro (fun hz => ?_) (fun hz => ?_)
  · try simp -implicitDefEqProofs -dsimp (disch := first | omega | (simp only [List.length_set, List.length_append, List.length_cons, List.length_nil, List.length_map]; omega)) only [↓wp_ok, ↓wp_err, ↓wp_exc, ↓wp_bind, ↓wp_var, ↓wp_cst, ↓wp_bin, ↓wp_neg, ↓wp_cmp, ↓wp_and, ↓wp_or, ↓wp_not, ↓wp_ite, ↓wp_tup, ↓wp_lst, ↓wp_idx, ↓wp_slc, ↓wp_call, ↓wp_bi, ↓wp_bl, ↓wp_mt, ↓wp_mk, ↓wp_lr1, ↓wp_lr2, ↓wp_aa, ↓wp_tr2, ↓wp_maxD, ↓wp_srt, ↓wp_glc, ↓wp_rgN, ↓wp_srtD, ↓wp_lc2, ↓wp_i3, ↓wp_iv, ↓mt_pp, ↓mt_ppA, ↓wp_esn, ↓wp_esc, ↓wp_pn, ↓wp_pa, ↓wp_tv, ↓wp_ta, ↓wp_to, ↓wp_tn, ↓wp_lo, ↓wp_ld, ↓wp_lc, ↓wp_tsn, ↓wp_tsc, ↓wp_io, ↓wp_i1, ↓wp_i2, ↓wp_iz, ↓wp_ie, ↓wo_some, ↓wo_none, ↓br_t, ↓br_f, ↓wps_ok, ↓wps_st, ↓wb_add, ↓wb_sub, ↓wb_mulR, ↓wb_mulL, ↓wb_div, ↓wb_mod, ↓wb_pow, ↓wb_addT, ↓wb_mulT, ↓wb_addL, ↓wb_mulLs, ↓wn_neg, ↓wc_eq, ↓wc_ne, ↓wc_lt, ↓wc_le, ↓wc_gt, ↓wc_ge, ↓wc_in, ↓wc_nin, ↓wc_isN, ↓wc_notN, ↓item_int, ↓sl_tup, ↓sl_ref, ↓bi_len, ↓bi_abs, ↓bi_int, ↓bi_intb, ↓bi_isI, ↓bi_max, ↓bi_min, ↓bi_divmod, ↓bi_lcm, ↓bi_gcd, ↓bl_sum, ↓bl_tuple, ↓bl_list, ↓bl_len, ↓bl_max, ↓bl_min, ↓mt_app, ↓mt_ext, ↓mt_ix, ↓setIt_ref, ↓ws_n, ↓ws_c, ↓ws_expr, ↓ws_asg, ↓ws_set, ↓ws_aug, ↓ws_augS, ↓ws_bad, ↓ws_if, ↓ws_for, ↓ws_whl, ↓ws_ret, ↓ws_retN, ↓ws_brk, ↓ws_cont, ↓ws_pass, ↓sq_n, ↓sq_b, ↓sq_c, ↓sq_r, ↓sq_z, ↓fin_ret, ↓fin_next, ↓fin_rz, ↓isTy_cv, ↓isTy_rt, ↓tr_cv, ↓tr_rt, look_z, look_s, rgW_rg, isNon_non, isNon_bl, isNon_int, isNon_str, isNon_tup, isNon_fl, isNon_ref, eqW_int, eqW_bl, tr_non, tr_bl, tr_int, tr_tup, ixN_in, ixN_neg, mtW_ref, seqOf_ref, seqOf_tup, seqOf_fl, seqOf_rt, seqOf_cv, isNon_rt, isNon_cv, isTup_rt, isTup_cv, guOf_rt, guOf_cv, isTy_rt, isTy_cv, cv_eq, rt_eq, asg_rt, asg_cv, asg_var, asg_tup2, asg_tup3, isTy, guOf, isTup, intW, aug_add, aug_sub, augO_a, augO_s, lstAt_z, lstAt_s, lstAt_al, lstAt_e, lstAt_ar, Nat.sub_self, Nat.add_sub_cancel_left, Nat.reduceSubDiff, List.append_assoc, lstAt_set, lstAt_ne, toInts_ints, toInts_nil, toInts_cons, toBls_nil, toBls_cons, Option.map_some, List.set_cons_succ, List.set_cons_zero, List.getElem?_cons_zero, List.getElem?_cons_succ, List.getElem_cons_zero, List.getElem_cons_succ, List.length_cons, List.length_nil, List.length_set, List.length_append, List.length_map, List.nil_append, List.cons_append, List.append_nil, List.set_set, Nat.reduceAdd, Nat.reduceLeDiff, Nat.reduceLT, Nat.reduceSub, true_and, and_true, Bool.not_true, Bool.not_false, decide_true, decide_false, Int.reduceToNat, Int.reducePow, Int.reduceNeg, Int.cast_ofNat_Int, decide_eq_true_eq, Nat.zero_add, Nat.add_zero, Int.toNat_natCast, Int.reduceLT, Int.reduceLE, Int.reduceBNe, Int.reduceEq, Int.natCast_add, Nat.le_refl]
    refine draw2 (F6.tp.app _) (by omega) fun r7 g7 a7 b7 F7 L7 => ?_
    have e7 : lstAt g7 g6.length = some (tn.map W.int) := by rw [F7.lst (by simp) (by omega)]; exact (lst_new rfl (Nat.le_refl _)).trans (by rw [Nat.sub_self]; rfl)
    have es : (tn.map W.int).set r7.toNat (.int 1) = (tn.set r7.toNat 1).map W.int := by rw [List.map_set]
    have L7' : g7.length = g6.length + 1 := by rw [L7]; simp
    try simp -implicitDefEqProofs -dsimp (disch := first | omega | (simp only [List.length_set, List.length_append, List.length_cons, List.length_nil, List.length_map]; omega)) only [↓wp_ok, ↓wp_err, ↓wp_exc, ↓wp_bind, ↓wp_var, ↓wp_cst, ↓wp_bin, ↓wp_neg, ↓wp_cmp, ↓wp_and, ↓wp_or, ↓wp_not, ↓wp_ite, ↓wp_tup, ↓wp_lst, ↓wp_idx, ↓wp_slc, ↓wp_call, ↓wp_bi, ↓wp_bl, ↓wp_mt, ↓wp_mk, ↓wp_lr1, ↓wp_lr2, ↓wp_aa, ↓wp_tr2, ↓wp_maxD, ↓wp_srt, ↓wp_glc, ↓wp_rgN, ↓wp_srtD, ↓wp_lc2, ↓wp_i3, ↓wp_iv, ↓mt_pp, ↓mt_ppA, ↓wp_esn, ↓wp_esc, ↓wp_pn, ↓wp_pa, ↓wp_tv, ↓wp_ta, ↓wp_to, ↓wp_tn, ↓wp_lo, ↓wp_ld, ↓wp_lc, ↓wp_tsn, ↓wp_tsc, ↓wp_io, ↓wp_i1, ↓wp_i2, ↓wp_iz, ↓wp_ie, ↓wo_some, ↓wo_none, ↓br_t, ↓br_f, ↓wps_ok, ↓wps_st, ↓wb_add, ↓wb_sub, ↓wb_mulR, ↓wb_mulL, ↓wb_div, ↓wb_mod, ↓wb_pow, ↓wb_addT, ↓wb_mulT, ↓wb_addL, ↓wb_mulLs, ↓wn_neg, ↓wc_eq, ↓wc_ne, ↓wc_lt, ↓wc_le, ↓wc_gt, ↓wc_ge, ↓wc_in, ↓wc_nin, ↓wc_isN, ↓wc_notN, ↓item_int, ↓sl_tup, ↓sl_ref, ↓bi_len, ↓bi_abs, ↓bi_int, ↓bi_intb, ↓bi_isI, ↓bi_max, ↓bi_min, ↓bi_divmod, ↓bi_lcm, ↓bi_gcd, ↓bl_sum, ↓bl_tuple, ↓bl_list, ↓bl_len, ↓bl_max, ↓bl_min, ↓mt_app, ↓mt_ext, ↓mt_ix, ↓setIt_ref, ↓ws_n, ↓ws_c, ↓ws_expr, ↓ws_asg, ↓ws_set, ↓ws_aug, ↓ws_augS, ↓ws_bad, ↓ws_if, ↓ws_for, ↓ws_whl, ↓ws_ret, ↓ws_retN, ↓ws_brk, ↓ws_cont, ↓ws_pass, ↓sq_n, ↓sq_b, ↓sq_c, ↓sq_r, ↓sq_z, ↓fin_ret, ↓fin_next, ↓fin_rz, ↓isTy_cv, ↓isTy_rt, ↓tr_cv, ↓tr_rt, look_z, look_s, rgW_rg, isNon_non, isNon_bl, isNon_int, isNon_str, isNon_tup, isNon_fl, isNon_ref, eqW_int, eqW_bl, tr_non, tr_bl, tr_int, tr_tup, ixN_in, ixN_neg, mtW_ref, seqOf_ref, seqOf_tup, seqOf_fl, seqOf_rt, seqOf_cv, isNon_rt, isNon_cv, isTup_rt, isTup_cv, guOf_rt, guOf_cv, isTy_rt, isTy_cv, cv_eq, rt_eq, asg_rt, asg_cv, asg_var, asg_tup2, asg_tup3, isTy, guOf, isTup, intW, aug_add, aug_sub, augO_a, augO_s, lstAt_z, lstAt_s, lstAt_al, lstAt_e, lstAt_ar, Nat.sub_self, Nat.add_sub_cancel_left, Nat.reduceSubDiff, List.append_assoc, lstAt_set, lstAt_ne, toInts_ints, toInts_nil, toInts_cons, toBls_nil, toBls_cons, Option.map_some, List.set_cons_succ, List.set_cons_zero, List.getElem?_cons_zero, List.getElem?_cons_succ, List.getElem_cons_zero, List.getElem_cons_succ, List.length_cons, List.length_nil, List.length_set, List.length_append, List.length_map, List.nil_append, List.cons_append, List.append_nil, List.set_set, Nat.reduceAdd, Nat.reduceLeDiff, Nat.reduceLT, Nat.reduceSub, true_and, and_true, Bool.not_true, Bool.not_false, decide_true, decide_false, Int.reduceToNat, Int.reducePow, Int.reduceNeg, Int.cast_ofNat_Int, decide_eq_true_eq, Nat.zero_add, Nat.add_zero, Int.toNat_natCast, Int.reduceLT, Int.reduceLE, Int.reduceBNe, Int.reduceEq, Int.natCast_add, Nat.le_refl, e7, es]
    exact tidy_fr (((F6'.app _).trans F7).put (i := g6.length) (by omega) T) T cv_blw fun g8 F8 L8 => K hd (tn.set r7.toNat 1) g8 ⟨by omega, by rw [List.length_set]; omega, by rw [List.length_set]; omega⟩ ⟨hx3, set_all hx6 (by omega)⟩ (set_pos (fun x hx => (hx6 x hx).1) (by omega) (by omega)) F8 L8
  · try simp -implicitDefEqProofs -dsimp (disch := first | omega | (simp only [List.length_set, List.length_append, List.length_cons, List.length_nil, List.length_map]; omega)) only [↓wp_ok, ↓wp_err, ↓wp_exc, ↓wp_bind, ↓wp_var, ↓wp_cst, ↓wp_bin, ↓wp_neg, ↓wp_cmp, ↓wp_and, ↓wp_or, ↓wp_not, ↓wp_ite, ↓wp_tup, ↓wp_lst, ↓wp_idx, ↓wp_slc, ↓wp_call, ↓wp_bi, ↓wp_bl, ↓wp_mt, ↓wp_mk, ↓wp_lr1, ↓wp_lr2, ↓wp_aa, ↓wp_tr2, ↓wp_maxD, ↓wp_srt, ↓wp_glc, ↓wp_rgN, ↓wp_srtD, ↓wp_lc2, ↓wp_i3, ↓wp_iv, ↓mt_pp, ↓mt_ppA, ↓wp_esn, ↓wp_esc, ↓wp_pn, ↓wp_pa, ↓wp_tv, ↓wp_ta, ↓wp_to, ↓wp_tn, ↓wp_lo, ↓wp_ld, ↓wp_lc, ↓wp_tsn, ↓wp_tsc, ↓wp_io, ↓wp_i1, ↓wp_i2, ↓wp_iz, ↓wp_ie, ↓wo_some, ↓wo_none, ↓br_t, ↓br_f, ↓wps_ok, ↓wps_st, ↓wb_add, ↓wb_sub, ↓wb_mulR, ↓wb_mulL, ↓wb_div, ↓wb_mod, ↓wb_pow, ↓wb_addT, ↓wb_mulT, ↓wb_addL, ↓wb_mulLs, ↓wn_neg, ↓wc_eq, ↓wc_ne, ↓wc_lt, ↓wc_le, ↓wc_gt, ↓wc_ge, ↓wc_in, ↓wc_nin, ↓wc_isN, ↓wc_notN, ↓item_int, ↓sl_tup, ↓sl_ref, ↓bi_len, ↓bi_abs, ↓bi_int, ↓bi_intb, ↓bi_isI, ↓bi_max, ↓bi_min, ↓bi_divmod, ↓bi_lcm, ↓bi_gcd, ↓bl_sum, ↓bl_tuple, ↓bl_list, ↓bl_len, ↓bl_max, ↓bl_min, ↓mt_app, ↓mt_ext, ↓mt_ix, ↓setIt_ref, ↓ws_n, ↓ws_c, ↓ws_expr, ↓ws_asg, ↓ws_set, ↓ws_aug, ↓ws_augS, ↓ws_bad, ↓ws_if, ↓ws_for, ↓ws_whl, ↓ws_ret, ↓ws_retN, ↓ws_brk, ↓ws_cont, ↓ws_pass, ↓sq_n, ↓sq_b, ↓sq_c, ↓sq_r, ↓sq_z, ↓fin_ret, ↓fin_next, ↓fin_rz, ↓isTy_cv, ↓isTy_rt, ↓tr_cv, ↓tr_rt, look_z, look_s, rgW_rg, isNon_non, isNon_bl, isNon_int, isNon_str, isNon_tup, isNon_fl, isNon_ref, eqW_int, eqW_bl, tr_non, tr_bl, tr_int, tr_tup, ixN_in, ixN_neg, mtW_ref, seqOf_ref, seqOf_tup, seqOf_fl, seqOf_rt, seqOf_cv, isNon_rt, isNon_cv, isTup_rt, isTup_cv, guOf_rt, guOf_cv, isTy_rt, isTy_cv, cv_eq, rt_eq, asg_rt, asg_cv, asg_var, asg_tup2, asg_tup3, isTy, guOf, isTup, intW, aug_add, aug_sub, augO_a, augO_s, lstAt_z, lstAt_s, lstAt_al, lstAt_e, lstAt_ar, Nat.sub_self, Nat.add_sub_cancel_left, Nat.reduceSubDiff, List.append_assoc, lstAt_set, lstAt_ne, toInts_ints, toInts_nil, toInts_cons, toBls_nil, toBls_cons, Option.map_some, List.set_cons_succ, List.set_cons_zero, List.getElem?_cons_zero, List.getElem?_cons_succ, List.getElem_cons_zero, List.getElem_cons_succ, List.length_cons, List.length_nil, List.length_set, List.length_append, List.length_map, List.nil_append, List.cons_append, List.append_nil, List.set_set, Nat.reduceAdd, Nat.reduceLeDiff, Nat.reduceLT, Nat.reduceSub, true_and, and_true, Bool.not_true, Bool.not_false, decide_true, decide_false, Int.reduceToNat, Int.reducePow, Int.reduceNeg, Int.cast_ofNat_Int, decide_eq_true_eq, Nat.zero_add, Nat.add_zero, Int.toNat_natCast, Int.reduceLT, Int.reduceLE, Int.reduceBNe, Int.reduceEq, Int.natCast_add, Nat.le_refl]
    exact tidy_fr (F6'.app _) T cv_blw fun g8 F8 L8 => K hd tn g8 ⟨by omega, by omega, by omega⟩ ⟨hx3, hx6⟩ (by omega) F8 L8
end Law

namespace Law
open PySem Ev
/-! equal data are told the same -/
def Dt : Nat → W → Prop
  | _, .non => True
  | _, .bl _ => True
  | _, .int _ => True
  | d + 1, .tup xs => xs.length < 1000000 ∧ ∀ x ∈ xs, Dt d x
  | _, _ => False
theorem same_ok {h : Hw} : ∀ (d k : Nat) (w : W), Dt d w → PhiN ds (k + d + 1) 8 [w, w] h = .ok (.bl true) h := by
  intro d
  induction d with
  | zero =>
    intro k w hw
    refine wp_run (go__law_same ?_)
    cases w with
    | non => unfold s__law_same; try simp -implicitDefEqProofs -dsimp (disch := first | omega | (simp only [List.length_set, List.length_append, List.length_cons, List.length_nil, List.length_map]; omega)) only [↓wp_ok, ↓wp_err, ↓wp_exc, ↓wp_bind, ↓wp_var, ↓wp_cst, ↓wp_bin, ↓wp_neg, ↓wp_cmp, ↓wp_and, ↓wp_or, ↓wp_not, ↓wp_ite, ↓wp_tup, ↓wp_lst, ↓wp_idx, ↓wp_slc, ↓wp_call, ↓wp_bi, ↓wp_bl, ↓wp_mt, ↓wp_mk, ↓wp_lr1, ↓wp_lr2, ↓wp_aa, ↓wp_tr2, ↓wp_maxD, ↓wp_srt, ↓wp_glc, ↓wp_rgN, ↓wp_srtD, ↓wp_lc2, ↓wp_i3, ↓wp_iv, ↓mt_pp, ↓mt_ppA, ↓wp_esn, ↓wp_esc, ↓wp_pn, ↓wp_pa, ↓wp_tv, ↓wp_ta, ↓wp_to, ↓wp_tn, ↓wp_lo, ↓wp_ld, ↓wp_lc, ↓wp_tsn, ↓wp_tsc, ↓wp_io, ↓wp_i1, ↓wp_i2, ↓wp_iz, ↓wp_ie, ↓wo_some, ↓wo_none, ↓br_t, ↓br_f, ↓wps_ok, ↓wps_st, ↓wb_add, ↓wb_sub, ↓wb_mulR, ↓wb_mulL, ↓wb_div, ↓wb_mod, ↓wb_pow, ↓wb_addT, ↓wb_mulT, ↓wb_addL, ↓wb_mulLs, ↓wn_neg, ↓wc_eq, ↓wc_ne, ↓wc_lt, ↓wc_le, ↓wc_gt, ↓wc_ge, ↓wc_in, ↓wc_nin, ↓wc_isN, ↓wc_notN, ↓item_int, ↓sl_tup, ↓sl_ref, ↓bi_len, ↓bi_abs, ↓bi_int, ↓bi_intb, ↓bi_isI, ↓bi_max, ↓bi_min, ↓bi_divmod, ↓bi_lcm, ↓bi_gcd, ↓bl_sum, ↓bl_tuple, ↓bl_list, ↓bl_len, ↓bl_max, ↓bl_min, ↓mt_app, ↓mt_ext, ↓mt_ix, ↓setIt_ref, ↓ws_n, ↓ws_c, ↓ws_expr, ↓ws_asg, ↓ws_set, ↓ws_aug, ↓ws_augS, ↓ws_bad, ↓ws_if, ↓ws_for, ↓ws_whl, ↓ws_ret, ↓ws_retN, ↓ws_brk, ↓ws_cont, ↓ws_pass, ↓sq_n, ↓sq_b, ↓sq_c, ↓sq_r, ↓sq_z, ↓fin_ret, ↓fin_next, ↓fin_rz, ↓isTy_cv, ↓isTy_rt, ↓tr_cv, ↓tr_rt, look_z, look_s, rgW_rg, isNon_non, isNon_bl, isNon_int, isNon_str, isNon_tup, isNon_fl, isNon_ref, eqW_int, eqW_bl, tr_non, tr_bl, tr_int, tr_tup, ixN_in, ixN_neg, mtW_ref, seqOf_ref, seqOf_tup, seqOf_fl, seqOf_rt, seqOf_cv, isNon_rt, isNon_cv, isTup_rt, isTup_cv, guOf_rt, guOf_cv, isTy_rt, isTy_cv, cv_eq, rt_eq, asg_rt, asg_cv, asg_var, asg_tup2, asg_tup3, isTy, guOf, isTup, intW, aug_add, aug_sub, augO_a, augO_s, lstAt_z, lstAt_s, lstAt_al, lstAt_e, lstAt_ar, Nat.sub_self, Nat.add_sub_cancel_left, Nat.reduceSubDiff, List.append_assoc, lstAt_set, lstAt_ne, toInts_ints, toInts_nil, toInts_cons, toBls_nil, toBls_cons, Option.map_some, List.set_cons_succ, List.set_cons_zero, List.getElem?_cons_zero, List.getElem?_cons_succ, List.getElem_cons_zero, List.getElem_cons_succ, List.length_cons, List.length_nil, List.length_set, List.length_append, List.length_map, List.nil_append, List.cons_append, List.append_nil, List.set_set, Nat.reduceAdd, Nat.reduceLeDiff, Nat.reduceLT, Nat.reduceSub, true_and, and_true, Bool.not_true, Bool.not_false, decide_true, decide_false, Int.reduceToNat, Int.reducePow, Int.reduceNeg, Int.cast_ofNat_Int, decide_eq_true_eq, Nat.zero_add, Nat.add_zero, Int.toNat_natCast, Int.reduceLT, Int.reduceLE, Int.reduceBNe, Int.reduceEq, Int.natCast_add, Nat.le_refl, eq_self]; rw [tidy_one (Old.refl h) blw_bl]; exact ⟨rfl, rfl⟩
    | bl b => unfold s__law_same; try simp -implicitDefEqProofs -dsimp (disch := first | omega | (simp only [List.length_set, List.length_append, List.length_cons, List.length_nil, List.length_map]; omega)) only [↓wp_ok, ↓wp_err, ↓wp_exc, ↓wp_bind, ↓wp_var, ↓wp_cst, ↓wp_bin, ↓wp_neg, ↓wp_cmp, ↓wp_and, ↓wp_or, ↓wp_not, ↓wp_ite, ↓wp_tup, ↓wp_lst, ↓wp_idx, ↓wp_slc, ↓wp_call, ↓wp_bi, ↓wp_bl, ↓wp_mt, ↓wp_mk, ↓wp_lr1, ↓wp_lr2, ↓wp_aa, ↓wp_tr2, ↓wp_maxD, ↓wp_srt, ↓wp_glc, ↓wp_rgN, ↓wp_srtD, ↓wp_lc2, ↓wp_i3, ↓wp_iv, ↓mt_pp, ↓mt_ppA, ↓wp_esn, ↓wp_esc, ↓wp_pn, ↓wp_pa, ↓wp_tv, ↓wp_ta, ↓wp_to, ↓wp_tn, ↓wp_lo, ↓wp_ld, ↓wp_lc, ↓wp_tsn, ↓wp_tsc, ↓wp_io, ↓wp_i1, ↓wp_i2, ↓wp_iz, ↓wp_ie, ↓wo_some, ↓wo_none, ↓br_t, ↓br_f, ↓wps_ok, ↓wps_st, ↓wb_add, ↓wb_sub, ↓wb_mulR, ↓wb_mulL, ↓wb_div, ↓wb_mod, ↓wb_pow, ↓wb_addT, ↓wb_mulT, ↓wb_addL, ↓wb_mulLs, ↓wn_neg, ↓wc_eq, ↓wc_ne, ↓wc_lt, ↓wc_le, ↓wc_gt, ↓wc_ge, ↓wc_in, ↓wc_nin, ↓wc_isN, ↓wc_notN, ↓item_int, ↓sl_tup, ↓sl_ref, ↓bi_len, ↓bi_abs, ↓bi_int, ↓bi_intb, ↓bi_isI, ↓bi_max, ↓bi_min, ↓bi_divmod, ↓bi_lcm, ↓bi_gcd, ↓bl_sum, ↓bl_tuple, ↓bl_list, ↓bl_len, ↓bl_max, ↓bl_min, ↓mt_app, ↓mt_ext, ↓mt_ix, ↓setIt_ref, ↓ws_n, ↓ws_c, ↓ws_expr, ↓ws_asg, ↓ws_set, ↓ws_aug, ↓ws_augS, ↓ws_bad, ↓ws_if, ↓ws_for, ↓ws_whl, ↓ws_ret, ↓ws_retN, ↓ws_brk, ↓ws_cont, ↓ws_pass, ↓sq_n, ↓sq_b, ↓sq_c, ↓sq_r, ↓sq_z, ↓fin_ret, ↓fin_next, ↓fin_rz, ↓isTy_cv, ↓isTy_rt, ↓tr_cv, ↓tr_rt, look_z, look_s, rgW_rg, isNon_non, isNon_bl, isNon_int, isNon_str, isNon_tup, isNon_fl, isNon_ref, eqW_int, eqW_bl, tr_non, tr_bl, tr_int, tr_tup, ixN_in, ixN_neg, mtW_ref, seqOf_ref, seqOf_tup, seqOf_fl, seqOf_rt, seqOf_cv, isNon_rt, isNon_cv, isTup_rt, isTup_cv, guOf_rt, guOf_cv, isTy_rt, isTy_cv, cv_eq, rt_eq, asg_rt, asg_cv, asg_var, asg_tup2, asg_tup3, isTy, guOf, isTup, intW, aug_add, aug_sub, augO_a, augO_s, lstAt_z, lstAt_s, lstAt_al, lstAt_e, lstAt_ar, Nat.sub_self, Nat.add_sub_cancel_left, Nat.reduceSubDiff, List.append_assoc, lstAt_set, lstAt_ne, toInts_ints, toInts_nil, toInts_cons, toBls_nil, toBls_cons, Option.map_some, List.set_cons_succ, List.set_cons_zero, List.getElem?_cons_zero, List.getElem?_cons_succ, List.getElem_cons_zero, List.getElem_cons_succ, List.length_cons, List.length_nil, List.length_set, List.length_append, List.length_map, List.nil_append, List.cons_append, List.append_nil, List.set_set, Nat.reduceAdd, Nat.reduceLeDiff, Nat.reduceLT, Nat.reduceSub, true_and, and_true, Bool.not_true, Bool.not_false, decide_true, decide_false, Int.reduceToNat, Int.reducePow, Int.reduceNeg, Int.cast_ofNat_Int, decide_eq_true_eq, Nat.zero_add, Nat.add_zero, Int.toNat_natCast, Int.reduceLT, Int.reduceLE, Int.reduceBNe, Int.reduceEq, Int.natCast_add, Nat.le_refl, eq_self]; rw [tidy_one (Old.refl h) blw_bl]; exact ⟨rfl, rfl⟩
    | int i => unfold s__law_same; try simp -implicitDefEqProofs -dsimp (disch := first | omega | (simp only [List.length_set, List.length_append, List.length_cons, List.length_nil, List.length_map]; omega)) only [↓wp_ok, ↓wp_err, ↓wp_exc, ↓wp_bind, ↓wp_var, ↓wp_cst, ↓wp_bin, ↓wp_neg, ↓wp_cmp, ↓wp_and, ↓wp_or, ↓wp_not, ↓wp_ite, ↓wp_tup, ↓wp_lst, ↓wp_idx, ↓wp_slc, ↓wp_call, ↓wp_bi, ↓wp_bl, ↓wp_mt, ↓wp_mk, ↓wp_lr1, ↓wp_lr2, ↓wp_aa, ↓wp_tr2, ↓wp_maxD, ↓wp_srt, ↓wp_glc, ↓wp_rgN, ↓wp_srtD, ↓wp_lc2, ↓wp_i3, ↓wp_iv, ↓mt_pp, ↓mt_ppA, ↓wp_esn, ↓wp_esc, ↓wp_pn, ↓wp_pa, ↓wp_tv, ↓wp_ta, ↓wp_to, ↓wp_tn, ↓wp_lo, ↓wp_ld, ↓wp_lc, ↓wp_tsn, ↓wp_tsc, ↓wp_io, ↓wp_i1, ↓wp_i2, ↓wp_iz, ↓wp_ie, ↓wo_some, ↓wo_none, ↓br_t, ↓br_f, ↓wps_ok, ↓wps_st, ↓wb_add, ↓wb_sub, ↓wb_mulR, ↓wb_mulL, ↓wb_div, ↓wb_mod, ↓wb_pow, ↓wb_addT, ↓wb_mulT, ↓wb_addL, ↓wb_mulLs, ↓wn_neg, ↓wc_eq, ↓wc_ne, ↓wc_lt, ↓wc_le, ↓wc_gt, ↓wc_ge, ↓wc_in, ↓wc_nin, ↓wc_isN, ↓wc_notN, ↓item_int, ↓sl_tup, ↓sl_ref, ↓bi_len, ↓bi_abs, ↓bi_int, ↓bi_intb, ↓bi_isI, ↓bi_max, ↓bi_min, ↓bi_divmod, ↓bi_lcm, ↓bi_gcd, ↓bl_sum, ↓bl_tuple, ↓bl_list, ↓bl_len, ↓bl_max, ↓bl_min, ↓mt_app, ↓mt_ext, ↓mt_ix, ↓setIt_ref, ↓ws_n, ↓ws_c, ↓ws_expr, ↓ws_asg, ↓ws_set, ↓ws_aug, ↓ws_augS, ↓ws_bad, ↓ws_if, ↓ws_for, ↓ws_whl, ↓ws_ret, ↓ws_retN, ↓ws_brk, ↓ws_cont, ↓ws_pass, ↓sq_n, ↓sq_b, ↓sq_c, ↓sq_r, ↓sq_z, ↓fin_ret, ↓fin_next, ↓fin_rz, ↓isTy_cv, ↓isTy_rt, ↓tr_cv, ↓tr_rt, look_z, look_s, rgW_rg, isNon_non, isNon_bl, isNon_int, isNon_str, isNon_tup, isNon_fl, isNon_ref, eqW_int, eqW_bl, tr_non, tr_bl, tr_int, tr_tup, ixN_in, ixN_neg, mtW_ref, seqOf_ref, seqOf_tup, seqOf_fl, seqOf_rt, seqOf_cv, isNon_rt, isNon_cv, isTup_rt, isTup_cv, guOf_rt, guOf_cv, isTy_rt, isTy_cv, cv_eq, rt_eq, asg_rt, asg_cv, asg_var, asg_tup2, asg_tup3, isTy, guOf, isTup, intW, aug_add, aug_sub, augO_a, augO_s, lstAt_z, lstAt_s, lstAt_al, lstAt_e, lstAt_ar, Nat.sub_self, Nat.add_sub_cancel_left, Nat.reduceSubDiff, List.append_assoc, lstAt_set, lstAt_ne, toInts_ints, toInts_nil, toInts_cons, toBls_nil, toBls_cons, Option.map_some, List.set_cons_succ, List.set_cons_zero, List.getElem?_cons_zero, List.getElem?_cons_succ, List.getElem_cons_zero, List.getElem_cons_succ, List.length_cons, List.length_nil, List.length_set, List.length_append, List.length_map, List.nil_append, List.cons_append, List.append_nil, List.set_set, Nat.reduceAdd, Nat.reduceLeDiff, Nat.reduceLT, Nat.reduceSub, true_and, and_true, Bool.not_true, Bool.not_false, decide_true, decide_false, Int.reduceToNat, Int.reducePow, Int.reduceNeg, Int.cast_ofNat_Int, decide_eq_true_eq, Nat.zero_add, Nat.add_zero, Int.toNat_natCast, Int.reduceLT, Int.reduceLE, Int.reduceBNe, Int.reduceEq, Int.natCast_add, Nat.le_refl, eq_self]; rw [tidy_one (Old.refl h) blw_bl]; exact ⟨rfl, rfl⟩
    | _ => unfold Dt at hw; exact hw.elim
  | succ d ih =>
    intro k w hw
    refine wp_run (go__law_same ?_)
    cases w with
    | non => unfold s__law_same; try simp -implicitDefEqProofs -dsimp (disch := first | omega | (simp only [List.length_set, List.length_append, List.length_cons, List.length_nil, List.length_map]; omega)) only [↓wp_ok, ↓wp_err, ↓wp_exc, ↓wp_bind, ↓wp_var, ↓wp_cst, ↓wp_bin, ↓wp_neg, ↓wp_cmp, ↓wp_and, ↓wp_or, ↓wp_not, ↓wp_ite, ↓wp_tup, ↓wp_lst, ↓wp_idx, ↓wp_slc, ↓wp_call, ↓wp_bi, ↓wp_bl, ↓wp_mt, ↓wp_mk, ↓wp_lr1, ↓wp_lr2, ↓wp_aa, ↓wp_tr2, ↓wp_maxD, ↓wp_srt, ↓wp_glc, ↓wp_rgN, ↓wp_srtD, ↓wp_lc2, ↓wp_i3, ↓wp_iv, ↓mt_pp, ↓mt_ppA, ↓wp_esn, ↓wp_esc, ↓wp_pn, ↓wp_pa, ↓wp_tv, ↓wp_ta, ↓wp_to, ↓wp_tn, ↓wp_lo, ↓wp_ld, ↓wp_lc, ↓wp_tsn, ↓wp_tsc, ↓wp_io, ↓wp_i1, ↓wp_i2, ↓wp_iz, ↓wp_ie, ↓wo_some, ↓wo_none, ↓br_t, ↓br_f, ↓wps_ok, ↓wps_st, ↓wb_add, ↓wb_sub, ↓wb_mulR, ↓wb_mulL, ↓wb_div, ↓wb_mod, ↓wb_pow, ↓wb_addT, ↓wb_mulT, ↓wb_addL, ↓wb_mulLs, ↓wn_neg, ↓wc_eq, ↓wc_ne, ↓wc_lt, ↓wc_le, ↓wc_gt, ↓wc_ge, ↓wc_in, ↓wc_nin, ↓wc_isN, ↓wc_notN, ↓item_int, ↓sl_tup, ↓sl_ref, ↓bi_len, ↓bi_abs, ↓bi_int, ↓bi_intb, ↓bi_isI, ↓bi_max, ↓bi_min, ↓bi_divmod, ↓bi_lcm, ↓bi_gcd, ↓bl_sum, ↓bl_tuple, ↓bl_list, ↓bl_len, ↓bl_max, ↓bl_min, ↓mt_app, ↓mt_ext, ↓mt_ix, ↓setIt_ref, ↓ws_n, ↓ws_c, ↓ws_expr, ↓ws_asg, ↓ws_set, ↓ws_aug, ↓ws_augS, ↓ws_bad, ↓ws_if, ↓ws_for, ↓ws_whl, ↓ws_ret, ↓ws_retN, ↓ws_brk, ↓ws_cont, ↓ws_pass, ↓sq_n, ↓sq_b, ↓sq_c, ↓sq_r, ↓sq_z, ↓fin_ret, ↓fin_next, ↓fin_rz, ↓isTy_cv, ↓isTy_rt, ↓tr_cv, ↓tr_rt, look_z, look_s, rgW_rg, isNon_non, isNon_bl, isNon_int, isNon_str, isNon_tup, isNon_fl, isNon_ref, eqW_int, eqW_bl, tr_non, tr_bl, tr_int, tr_tup, ixN_in, ixN_neg, mtW_ref, seqOf_ref, seqOf_tup, seqOf_fl, seqOf_rt, seqOf_cv, isNon_rt, isNon_cv, isTup_rt, isTup_cv, guOf_rt, guOf_cv, isTy_rt, isTy_cv, cv_eq, rt_eq, asg_rt, asg_cv, asg_var, asg_tup2, asg_tup3, isTy, guOf, isTup, intW, aug_add, aug_sub, augO_a, augO_s, lstAt_z, lstAt_s, lstAt_al, lstAt_e, lstAt_ar, Nat.sub_self, Nat.add_sub_cancel_left, Nat.reduceSubDiff, List.append_assoc, lstAt_set, lstAt_ne, toInts_ints, toInts_nil, toInts_cons, toBls_nil, toBls_cons, Option.map_some, List.set_cons_succ, List.set_cons_zero, List.getElem?_cons_zero, List.getElem?_cons_succ, List.getElem_cons_zero, List.getElem_cons_succ, List.length_cons, List.length_nil, List.length_set, List.length_append, List.length_map, List.nil_append, List.cons_append, List.append_nil, List.set_set, Nat.reduceAdd, Nat.reduceLeDiff, Nat.reduceLT, Nat.reduceSub, true_and, and_true, Bool.not_true, Bool.not_false, decide_true, decide_false, Int.reduceToNat, Int.reducePow, Int.reduceNeg, Int.cast_ofNat_Int, decide_eq_true_eq, Nat.zero_add, Nat.add_zero, Int.toNat_natCast, Int.reduceLT, Int.reduceLE, Int.reduceBNe, Int.reduceEq, Int.natCast_add, Nat.le_refl, eq_self]; rw [tidy_one (Old.refl h) blw_bl]; exact ⟨rfl, rfl⟩
    | bl b => unfold s__law_same; try simp -implicitDefEqProofs -dsimp (disch := first | omega | (simp only [List.length_set, List.length_append, List.length_cons, List.length_nil, List.length_map]; omega)) only [↓wp_ok, ↓wp_err, ↓wp_exc, ↓wp_bind, ↓wp_var, ↓wp_cst, ↓wp_bin, ↓wp_neg, ↓wp_cmp, ↓wp_and, ↓wp_or, ↓wp_not, ↓wp_ite, ↓wp_tup, ↓wp_lst, ↓wp_idx, ↓wp_slc, ↓wp_call, ↓wp_bi, ↓wp_bl, ↓wp_mt, ↓wp_mk, ↓wp_lr1, ↓wp_lr2, ↓wp_aa, ↓wp_tr2, ↓wp_maxD, ↓wp_srt, ↓wp_glc, ↓wp_rgN, ↓wp_srtD, ↓wp_lc2, ↓wp_i3, ↓wp_iv, ↓mt_pp, ↓mt_ppA, ↓wp_esn, ↓wp_esc, ↓wp_pn, ↓wp_pa, ↓wp_tv, ↓wp_ta, ↓wp_to, ↓wp_tn, ↓wp_lo, ↓wp_ld, ↓wp_lc, ↓wp_tsn, ↓wp_tsc, ↓wp_io, ↓wp_i1, ↓wp_i2, ↓wp_iz, ↓wp_ie, ↓wo_some, ↓wo_none, ↓br_t, ↓br_f, ↓wps_ok, ↓wps_st, ↓wb_add, ↓wb_sub, ↓wb_mulR, ↓wb_mulL, ↓wb_div, ↓wb_mod, ↓wb_pow, ↓wb_addT, ↓wb_mulT, ↓wb_addL, ↓wb_mulLs, ↓wn_neg, ↓wc_eq, ↓wc_ne, ↓wc_lt, ↓wc_le, ↓wc_gt, ↓wc_ge, ↓wc_in, ↓wc_nin, ↓wc_isN, ↓wc_notN, ↓item_int, ↓sl_tup, ↓sl_ref, ↓bi_len, ↓bi_abs, ↓bi_int, ↓bi_intb, ↓bi_isI, ↓bi_max, ↓bi_min, ↓bi_divmod, ↓bi_lcm, ↓bi_gcd, ↓bl_sum, ↓bl_tuple, ↓bl_list, ↓bl_len, ↓bl_max, ↓bl_min, ↓mt_app, ↓mt_ext, ↓mt_ix, ↓setIt_ref, ↓ws_n, ↓ws_c, ↓ws_expr, ↓ws_asg, ↓ws_set, ↓ws_aug, ↓ws_augS, ↓ws_bad, ↓ws_if, ↓ws_for, ↓ws_whl, ↓ws_ret, ↓ws_retN, ↓ws_brk, ↓ws_cont, ↓ws_pass, ↓sq_n, ↓sq_b, ↓sq_c, ↓sq_r, ↓sq_z, ↓fin_ret, ↓fin_next, ↓fin_rz, ↓isTy_cv, ↓isTy_rt, ↓tr_cv, ↓tr_rt, look_z, look_s, rgW_rg, isNon_non, isNon_bl, isNon_int, isNon_str, isNon_tup, isNon_fl, isNon_ref, eqW_int, eqW_bl, tr_non, tr_bl, tr_int, tr_tup, ixN_in, ixN_neg, mtW_ref, seqOf_ref, seqOf_tup, seqOf_fl, seqOf_rt, seqOf_cv, isNon_rt, isNon_cv, isTup_rt, isTup_cv, guOf_rt, guOf_cv, isTy_rt, isTy_cv, cv_eq, rt_eq, asg_rt, asg_cv, asg_var, asg_tup2, asg_tup3, isTy, guOf, isTup, intW, aug_add, aug_sub, augO_a, augO_s, lstAt_z, lstAt_s, lstAt_al, lstAt_e, lstAt_ar, Nat.sub_self, Nat.add_sub_cancel_left, Nat.reduceSubDiff, List.append_assoc, lstAt_set, lstAt_ne, toInts_ints, toInts_nil, toInts_cons, toBls_nil, toBls_cons, Option.map_some, List.set_cons_succ, List.set_cons_zero, List.getElem?_cons_zero, List.getElem?_cons_succ, List.getElem_cons_zero, List.getElem_cons_succ, List.length_cons, List.length_nil, List.length_set, List.length_append, List.length_map, List.nil_append, List.cons_append, List.append_nil, List.set_set, Nat.reduceAdd, Nat.reduceLeDiff, Nat.reduceLT, Nat.reduceSub, true_and, and_true, Bool.not_true, Bool.not_false, decide_true, decide_false, Int.reduceToNat, Int.reducePow, Int.reduceNeg, Int.cast_ofNat_Int, decide_eq_true_eq, Nat.zero_add, Nat.add_zero, Int.toNat_natCast, Int.reduceLT, Int.reduceLE, Int.reduceBNe, Int.reduceEq, Int.natCast_add, Nat.le_refl, eq_self]; rw [tidy_one (Old.refl h) blw_bl]; exact ⟨rfl, rfl⟩
    | int i => unfold s__law_same; try simp -implicitDefEqProofs -dsimp (disch := first | omega | (simp only [List.length_set, List.length_append, List.length_cons, List.length_nil, List.length_map]; omega)) only [↓wp_ok, ↓wp_err, ↓wp_exc, ↓wp_bind, ↓wp_var, ↓wp_cst, ↓wp_bin, ↓wp_neg, ↓wp_cmp, ↓wp_and, ↓wp_or, ↓wp_not, ↓wp_ite, ↓wp_tup, ↓wp_lst, ↓wp_idx, ↓wp_slc, ↓wp_call, ↓wp_bi, ↓wp_bl, ↓wp_mt, ↓wp_mk, ↓wp_lr1, ↓wp_lr2, ↓wp_aa, ↓wp_tr2, ↓wp_maxD, ↓wp_srt, ↓wp_glc, ↓wp_rgN, ↓wp_srtD, ↓wp_lc2, ↓wp_i3, ↓wp_iv, ↓mt_pp, ↓mt_ppA, ↓wp_esn, ↓wp_esc, ↓wp_pn, ↓wp_pa, ↓wp_tv, ↓wp_ta, ↓wp_to, ↓wp_tn, ↓wp_lo, ↓wp_ld, ↓wp_lc, ↓wp_tsn, ↓wp_tsc, ↓wp_io, ↓wp_i1, ↓wp_i2, ↓wp_iz, ↓wp_ie, ↓wo_some, ↓wo_none, ↓br_t, ↓br_f, ↓wps_ok, ↓wps_st, ↓wb_add, ↓wb_sub, ↓wb_mulR, ↓wb_mulL, ↓wb_div, ↓wb_mod, ↓wb_pow, ↓wb_addT, ↓wb_mulT, ↓wb_addL, ↓wb_mulLs, ↓wn_neg, ↓wc_eq, ↓wc_ne, ↓wc_lt, ↓wc_le, ↓wc_gt, ↓wc_ge, ↓wc_in, ↓wc_nin, ↓wc_isN, ↓wc_notN, ↓item_int, ↓sl_tup, ↓sl_ref, ↓bi_len, ↓bi_abs, ↓bi_int, ↓bi_intb, ↓bi_isI, ↓bi_max, ↓bi_min, ↓bi_divmod, ↓bi_lcm, ↓bi_gcd, ↓bl_sum, ↓bl_tuple, ↓bl_list, ↓bl_len, ↓bl_max, ↓bl_min, ↓mt_app, ↓mt_ext, ↓mt_ix, ↓setIt_ref, ↓ws_n, ↓ws_c, ↓ws_expr, ↓ws_asg, ↓ws_set, ↓ws_aug, ↓ws_augS, ↓ws_bad, ↓ws_if, ↓ws_for, ↓ws_whl, ↓ws_ret, ↓ws_retN, ↓ws_brk, ↓ws_cont, ↓ws_pass, ↓sq_n, ↓sq_b, ↓sq_c, ↓sq_r, ↓sq_z, ↓fin_ret, ↓fin_next, ↓fin_rz, ↓isTy_cv, ↓isTy_rt, ↓tr_cv, ↓tr_rt, look_z, look_s, rgW_rg, isNon_non, isNon_bl, isNon_int, isNon_str, isNon_tup, isNon_fl, isNon_ref, eqW_int, eqW_bl, tr_non, tr_bl, tr_int, tr_tup, ixN_in, ixN_neg, mtW_ref, seqOf_ref, seqOf_tup, seqOf_fl, seqOf_rt, seqOf_cv, isNon_rt, isNon_cv, isTup_rt, isTup_cv, guOf_rt, guOf_cv, isTy_rt, isTy_cv, cv_eq, rt_eq, asg_rt, asg_cv, asg_var, asg_tup2, asg_tup3, isTy, guOf, isTup, intW, aug_add, aug_sub, augO_a, augO_s, lstAt_z, lstAt_s, lstAt_al, lstAt_e, lstAt_ar, Nat.sub_self, Nat.add_sub_cancel_left, Nat.reduceSubDiff, List.append_assoc, lstAt_set, lstAt_ne, toInts_ints, toInts_nil, toInts_cons, toBls_nil, toBls_cons, Option.map_some, List.set_cons_succ, List.set_cons_zero, List.getElem?_cons_zero, List.getElem?_cons_succ, List.getElem_cons_zero, List.getElem_cons_succ, List.length_cons, List.length_nil, List.length_set, List.length_append, List.length_map, List.nil_append, List.cons_append, List.append_nil, List.set_set, Nat.reduceAdd, Nat.reduceLeDiff, Nat.reduceLT, Nat.reduceSub, true_and, and_true, Bool.not_true, Bool.not_false, decide_true, decide_false, Int.reduceToNat, Int.reducePow, Int.reduceNeg, Int.cast_ofNat_Int, decide_eq_true_eq, Nat.zero_add, Nat.add_zero, Int.toNat_natCast, Int.reduceLT, Int.reduceLE, Int.reduceBNe, Int.reduceEq, Int.natCast_add, Nat.le_refl, eq_self]; rw [tidy_one (Old.refl h) blw_bl]; exact ⟨rfl, rfl⟩
    | tup xs =>
      unfold Dt at hw
      unfold s__law_same
      try simp -implicitDefEqProofs -dsimp (disch := first | omega | (simp only [List.length_set, List.length_append, List.length_cons, List.length_nil, List.length_map]; omega)) only [↓wp_ok, ↓wp_err, ↓wp_exc, ↓wp_bind, ↓wp_var, ↓wp_cst, ↓wp_bin, ↓wp_neg, ↓wp_cmp, ↓wp_and, ↓wp_or, ↓wp_not, ↓wp_ite, ↓wp_tup, ↓wp_lst, ↓wp_idx, ↓wp_slc, ↓wp_call, ↓wp_bi, ↓wp_bl, ↓wp_mt, ↓wp_mk, ↓wp_lr1, ↓wp_lr2, ↓wp_aa, ↓wp_tr2, ↓wp_maxD, ↓wp_srt, ↓wp_glc, ↓wp_rgN, ↓wp_srtD, ↓wp_lc2, ↓wp_i3, ↓wp_iv, ↓mt_pp, ↓mt_ppA, ↓wp_esn, ↓wp_esc, ↓wp_pn, ↓wp_pa, ↓wp_tv, ↓wp_ta, ↓wp_to, ↓wp_tn, ↓wp_lo, ↓wp_ld, ↓wp_lc, ↓wp_tsn, ↓wp_tsc, ↓wp_io, ↓wp_i1, ↓wp_i2, ↓wp_iz, ↓wp_ie, ↓wo_some, ↓wo_none, ↓br_t, ↓br_f, ↓wps_ok, ↓wps_st, ↓wb_add, ↓wb_sub, ↓wb_mulR, ↓wb_mulL, ↓wb_div, ↓wb_mod, ↓wb_pow, ↓wb_addT, ↓wb_mulT, ↓wb_addL, ↓wb_mulLs, ↓wn_neg, ↓wc_eq, ↓wc_ne, ↓wc_lt, ↓wc_le, ↓wc_gt, ↓wc_ge, ↓wc_in, ↓wc_nin, ↓wc_isN, ↓wc_notN, ↓item_int, ↓sl_tup, ↓sl_ref, ↓bi_len, ↓bi_abs, ↓bi_int, ↓bi_intb, ↓bi_isI, ↓bi_max, ↓bi_min, ↓bi_divmod, ↓bi_lcm, ↓bi_gcd, ↓bl_sum, ↓bl_tuple, ↓bl_list, ↓bl_len, ↓bl_max, ↓bl_min, ↓mt_app, ↓mt_ext, ↓mt_ix, ↓setIt_ref, ↓ws_n, ↓ws_c, ↓ws_expr, ↓ws_asg, ↓ws_set, ↓ws_aug, ↓ws_augS, ↓ws_bad, ↓ws_if, ↓ws_for, ↓ws_whl, ↓ws_ret, ↓ws_retN, ↓ws_brk, ↓ws_cont, ↓ws_pass, ↓sq_n, ↓sq_b, ↓sq_c, ↓sq_r, ↓sq_z, ↓fin_ret, ↓fin_next, ↓fin_rz, ↓isTy_cv, ↓isTy_rt, ↓tr_cv, ↓tr_rt, look_z, look_s, rgW_rg, isNon_non, isNon_bl, isNon_int, isNon_str, isNon_tup, isNon_fl, isNon_ref, eqW_int, eqW_bl, tr_non, tr_bl, tr_int, tr_tup, ixN_in, ixN_neg, mtW_ref, seqOf_ref, seqOf_tup, seqOf_fl, seqOf_rt, seqOf_cv, isNon_rt, isNon_cv, isTup_rt, isTup_cv, guOf_rt, guOf_cv, isTy_rt, isTy_cv, cv_eq, rt_eq, asg_rt, asg_cv, asg_var, asg_tup2, asg_tup3, isTy, guOf, isTup, intW, aug_add, aug_sub, augO_a, augO_s, lstAt_z, lstAt_s, lstAt_al, lstAt_e, lstAt_ar, Nat.sub_self, Nat.add_sub_cancel_left, Nat.reduceSubDiff, List.append_assoc, lstAt_set, lstAt_ne, toInts_ints, toInts_nil, toInts_cons, toBls_nil, toBls_cons, Option.map_some, List.set_cons_succ, List.set_cons_zero, List.getElem?_cons_zero, List.getElem?_cons_succ, List.getElem_cons_zero, List.getElem_cons_succ, List.length_cons, List.length_nil, List.length_set, List.length_append, List.length_map, List.nil_append, List.cons_append, List.append_nil, List.set_set, Nat.reduceAdd, Nat.reduceLeDiff, Nat.reduceLT, Nat.reduceSub, true_and, and_true, Bool.not_true, Bool.not_false, decide_true, decide_false, Int.reduceToNat, Int.reducePow, Int.reduceNeg, Int.cast_ofNat_Int, decide_eq_true_eq, Nat.zero_add, Nat.add_zero, Int.toNat_natCast, Int.reduceLT, Int.reduceLE, Int.reduceBNe, Int.reduceEq, Int.natCast_add, Nat.le_refl, eq_self]
      refine ⟨by omega, ?_⟩
      refine wp_compR (fun _ g acc => g = h ∧ acc = []) ?_ ⟨rfl, rfl⟩ ?_
      · rintro i g acc hi ⟨rfl, rfl⟩
        have hi' : i < xs.length := by omega
        try simp -implicitDefEqProofs -dsimp (disch := first | omega | (simp only [List.length_set, List.length_append, List.length_cons, List.length_nil, List.length_map]; omega)) only [↓wp_ok, ↓wp_err, ↓wp_exc, ↓wp_bind, ↓wp_var, ↓wp_cst, ↓wp_bin, ↓wp_neg, ↓wp_cmp, ↓wp_and, ↓wp_or, ↓wp_not, ↓wp_ite, ↓wp_tup, ↓wp_lst, ↓wp_idx, ↓wp_slc, ↓wp_call, ↓wp_bi, ↓wp_bl, ↓wp_mt, ↓wp_mk, ↓wp_lr1, ↓wp_lr2, ↓wp_aa, ↓wp_tr2, ↓wp_maxD, ↓wp_srt, ↓wp_glc, ↓wp_rgN, ↓wp_srtD, ↓wp_lc2, ↓wp_i3, ↓wp_iv, ↓mt_pp, ↓mt_ppA, ↓wp_esn, ↓wp_esc, ↓wp_pn, ↓wp_pa, ↓wp_tv, ↓wp_ta, ↓wp_to, ↓wp_tn, ↓wp_lo, ↓wp_ld, ↓wp_lc, ↓wp_tsn, ↓wp_tsc, ↓wp_io, ↓wp_i1, ↓wp_i2, ↓wp_iz, ↓wp_ie, ↓wo_some, ↓wo_none, ↓br_t, ↓br_f, ↓wps_ok, ↓wps_st, ↓wb_add, ↓wb_sub, ↓wb_mulR, ↓wb_mulL, ↓wb_div, ↓wb_mod, ↓wb_pow, ↓wb_addT, ↓wb_mulT, ↓wb_addL, ↓wb_mulLs, ↓wn_neg, ↓wc_eq, ↓wc_ne, ↓wc_lt, ↓wc_le, ↓wc_gt, ↓wc_ge, ↓wc_in, ↓wc_nin, ↓wc_isN, ↓wc_notN, ↓item_int, ↓sl_tup, ↓sl_ref, ↓bi_len, ↓bi_abs, ↓bi_int, ↓bi_intb, ↓bi_isI, ↓bi_max, ↓bi_min, ↓bi_divmod, ↓bi_lcm, ↓bi_gcd, ↓bl_sum, ↓bl_tuple, ↓bl_list, ↓bl_len, ↓bl_max, ↓bl_min, ↓mt_app, ↓mt_ext, ↓mt_ix, ↓setIt_ref, ↓ws_n, ↓ws_c, ↓ws_expr, ↓ws_asg, ↓ws_set, ↓ws_aug, ↓ws_augS, ↓ws_bad, ↓ws_if, ↓ws_for, ↓ws_whl, ↓ws_ret, ↓ws_retN, ↓ws_brk, ↓ws_cont, ↓ws_pass, ↓sq_n, ↓sq_b, ↓sq_c, ↓sq_r, ↓sq_z, ↓fin_ret, ↓fin_next, ↓fin_rz, ↓isTy_cv, ↓isTy_rt, ↓tr_cv, ↓tr_rt, look_z, look_s, rgW_rg, isNon_non, isNon_bl, isNon_int, isNon_str, isNon_tup, isNon_fl, isNon_ref, eqW_int, eqW_bl, tr_non, tr_bl, tr_int, tr_tup, ixN_in, ixN_neg, mtW_ref, seqOf_ref, seqOf_tup, seqOf_fl, seqOf_rt, seqOf_cv, isNon_rt, isNon_cv, isTup_rt, isTup_cv, guOf_rt, guOf_cv, isTy_rt, isTy_cv, cv_eq, rt_eq, asg_rt, asg_cv, asg_var, asg_tup2, asg_tup3, isTy, guOf, isTup, intW, aug_add, aug_sub, augO_a, augO_s, lstAt_z, lstAt_s, lstAt_al, lstAt_e, lstAt_ar, Nat.sub_self, Nat.add_sub_cancel_left, Nat.reduceSubDiff, List.append_assoc, lstAt_set, lstAt_ne, toInts_ints, toInts_nil, toInts_cons, toBls_nil, toBls_cons, Option.map_some, List.set_cons_succ, List.set_cons_zero, List.getElem?_cons_zero, List.getElem?_cons_succ, List.getElem_cons_zero, List.getElem_cons_succ, List.length_cons, List.length_nil, List.length_set, List.length_append, List.length_map, List.nil_append, List.cons_append, List.append_nil, List.set_set, Nat.reduceAdd, Nat.reduceLeDiff, Nat.reduceLT, Nat.reduceSub, true_and, and_true, Bool.not_true, Bool.not_false, decide_true, decide_false, Int.reduceToNat, Int.reducePow, Int.reduceNeg, Int.cast_ofNat_Int, decide_eq_true_eq, Nat.zero_add, Nat.add_zero, Int.toNat_natCast, Int.reduceLT, Int.reduceLE, Int.reduceBNe, Int.reduceEq, Int.natCast_add, Nat.le_refl, wipe, List.getElem?_eq_getElem, Int.toNat_natCast, Int.zero_add]
        refine wp_eq (ih k _ (hw.2 _ (List.getElem_mem hi'))) ?_
        try simp -implicitDefEqProofs -dsimp (disch := first | omega | (simp only [List.length_set, List.length_append, List.length_cons, List.length_nil, List.length_map]; omega)) only [↓wp_ok, ↓wp_err, ↓wp_exc, ↓wp_bind, ↓wp_var, ↓wp_cst, ↓wp_bin, ↓wp_neg, ↓wp_cmp, ↓wp_and, ↓wp_or, ↓wp_not, ↓wp_ite, ↓wp_tup, ↓wp_lst, ↓wp_idx, ↓wp_slc, ↓wp_call, ↓wp_bi, ↓wp_bl, ↓wp_mt, ↓wp_mk, ↓wp_lr1, ↓wp_lr2, ↓wp_aa, ↓wp_tr2, ↓wp_maxD, ↓wp_srt, ↓wp_glc, ↓wp_rgN, ↓wp_srtD, ↓wp_lc2, ↓wp_i3, ↓wp_iv, ↓mt_pp, ↓mt_ppA, ↓wp_esn, ↓wp_esc, ↓wp_pn, ↓wp_pa, ↓wp_tv, ↓wp_ta, ↓wp_to, ↓wp_tn, ↓wp_lo, ↓wp_ld, ↓wp_lc, ↓wp_tsn, ↓wp_tsc, ↓wp_io, ↓wp_i1, ↓wp_i2, ↓wp_iz, ↓wp_ie, ↓wo_some, ↓wo_none, ↓br_t, ↓br_f, ↓wps_ok, ↓wps_st, ↓wb_add, ↓wb_sub, ↓wb_mulR, ↓wb_mulL, ↓wb_div, ↓wb_mod, ↓wb_pow, ↓wb_addT, ↓wb_mulT, ↓wb_addL, ↓wb_mulLs, ↓wn_neg, ↓wc_eq, ↓wc_ne, ↓wc_lt, ↓wc_le, ↓wc_gt, ↓wc_ge, ↓wc_in, ↓wc_nin, ↓wc_isN, ↓wc_notN, ↓item_int, ↓sl_tup, ↓sl_ref, ↓bi_len, ↓bi_abs, ↓bi_int, ↓bi_intb, ↓bi_isI, ↓bi_max, ↓bi_min, ↓bi_divmod, ↓bi_lcm, ↓bi_gcd, ↓bl_sum, ↓bl_tuple, ↓bl_list, ↓bl_len, ↓bl_max, ↓bl_min, ↓mt_app, ↓mt_ext, ↓mt_ix, ↓setIt_ref, ↓ws_n, ↓ws_c, ↓ws_expr, ↓ws_asg, ↓ws_set, ↓ws_aug, ↓ws_augS, ↓ws_bad, ↓ws_if, ↓ws_for, ↓ws_whl, ↓ws_ret, ↓ws_retN, ↓ws_brk, ↓ws_cont, ↓ws_pass, ↓sq_n, ↓sq_b, ↓sq_c, ↓sq_r, ↓sq_z, ↓fin_ret, ↓fin_next, ↓fin_rz, ↓isTy_cv, ↓isTy_rt, ↓tr_cv, ↓tr_rt, look_z, look_s, rgW_rg, isNon_non, isNon_bl, isNon_int, isNon_str, isNon_tup, isNon_fl, isNon_ref, eqW_int, eqW_bl, tr_non, tr_bl, tr_int, tr_tup, ixN_in, ixN_neg, mtW_ref, seqOf_ref, seqOf_tup, seqOf_fl, seqOf_rt, seqOf_cv, isNon_rt, isNon_cv, isTup_rt, isTup_cv, guOf_rt, guOf_cv, isTy_rt, isTy_cv, cv_eq, rt_eq, asg_rt, asg_cv, asg_var, asg_tup2, asg_tup3, isTy, guOf, isTup, intW, aug_add, aug_sub, augO_a, augO_s, lstAt_z, lstAt_s, lstAt_al, lstAt_e, lstAt_ar, Nat.sub_self, Nat.add_sub_cancel_left, Nat.reduceSubDiff, List.append_assoc, lstAt_set, lstAt_ne, toInts_ints, toInts_nil, toInts_cons, toBls_nil, toBls_cons, Option.map_some, List.set_cons_succ, List.set_cons_zero, List.getElem?_cons_zero, List.getElem?_cons_succ, List.getElem_cons_zero, List.getElem_cons_succ, List.length_cons, List.length_nil, List.length_set, List.length_append, List.length_map, List.nil_append, List.cons_append, List.append_nil, List.set_set, Nat.reduceAdd, Nat.reduceLeDiff, Nat.reduceLT, Nat.reduceSub, true_and, and_true, Bool.not_true, Bool.not_false, decide_true, decide_false, Int.reduceToNat, Int.reducePow, Int.reduceNeg, Int.cast_ofNat_Int, decide_eq_true_eq, Nat.zero_add, Nat.add_zero, Int.toNat_natCast, Int.reduceLT, Int.reduceLE, Int.reduceBNe, Int.reduceEq, Int.natCast_add, Nat.le_refl]
      · rintro g acc ⟨rfl, rfl⟩
        try simp -implicitDefEqProofs -dsimp (disch := first | omega | (simp only [List.length_set, List.length_append, List.length_cons, List.length_nil, List.length_map]; omega)) only [↓wp_ok, ↓wp_err, ↓wp_exc, ↓wp_bind, ↓wp_var, ↓wp_cst, ↓wp_bin, ↓wp_neg, ↓wp_cmp, ↓wp_and, ↓wp_or, ↓wp_not, ↓wp_ite, ↓wp_tup, ↓wp_lst, ↓wp_idx, ↓wp_slc, ↓wp_call, ↓wp_bi, ↓wp_bl, ↓wp_mt, ↓wp_mk, ↓wp_lr1, ↓wp_lr2, ↓wp_aa, ↓wp_tr2, ↓wp_maxD, ↓wp_srt, ↓wp_glc, ↓wp_rgN, ↓wp_srtD, ↓wp_lc2, ↓wp_i3, ↓wp_iv, ↓mt_pp, ↓mt_ppA, ↓wp_esn, ↓wp_esc, ↓wp_pn, ↓wp_pa, ↓wp_tv, ↓wp_ta, ↓wp_to, ↓wp_tn, ↓wp_lo, ↓wp_ld, ↓wp_lc, ↓wp_tsn, ↓wp_tsc, ↓wp_io, ↓wp_i1, ↓wp_i2, ↓wp_iz, ↓wp_ie, ↓wo_some, ↓wo_none, ↓br_t, ↓br_f, ↓wps_ok, ↓wps_st, ↓wb_add, ↓wb_sub, ↓wb_mulR, ↓wb_mulL, ↓wb_div, ↓wb_mod, ↓wb_pow, ↓wb_addT, ↓wb_mulT, ↓wb_addL, ↓wb_mulLs, ↓wn_neg, ↓wc_eq, ↓wc_ne, ↓wc_lt, ↓wc_le, ↓wc_gt, ↓wc_ge, ↓wc_in, ↓wc_nin, ↓wc_isN, ↓wc_notN, ↓item_int, ↓sl_tup, ↓sl_ref, ↓bi_len, ↓bi_abs, ↓bi_int, ↓bi_intb, ↓bi_isI, ↓bi_max, ↓bi_min, ↓bi_divmod, ↓bi_lcm, ↓bi_gcd, ↓bl_sum, ↓bl_tuple, ↓bl_list, ↓bl_len, ↓bl_max, ↓bl_min, ↓mt_app, ↓mt_ext, ↓mt_ix, ↓setIt_ref, ↓ws_n, ↓ws_c, ↓ws_expr, ↓ws_asg, ↓ws_set, ↓ws_aug, ↓ws_augS, ↓ws_bad, ↓ws_if, ↓ws_for, ↓ws_whl, ↓ws_ret, ↓ws_retN, ↓ws_brk, ↓ws_cont, ↓ws_pass, ↓sq_n, ↓sq_b, ↓sq_c, ↓sq_r, ↓sq_z, ↓fin_ret, ↓fin_next, ↓fin_rz, ↓isTy_cv, ↓isTy_rt, ↓tr_cv, ↓tr_rt, look_z, look_s, rgW_rg, isNon_non, isNon_bl, isNon_int, isNon_str, isNon_tup, isNon_fl, isNon_ref, eqW_int, eqW_bl, tr_non, tr_bl, tr_int, tr_tup, ixN_in, ixN_neg, mtW_ref, seqOf_ref, seqOf_tup, seqOf_fl, seqOf_rt, seqOf_cv, isNon_rt, isNon_cv, isTup_rt, isTup_cv, guOf_rt, guOf_cv, isTy_rt, isTy_cv, cv_eq, rt_eq, asg_rt, asg_cv, asg_var, asg_tup2, asg_tup3, isTy, guOf, isTup, intW, aug_add, aug_sub, augO_a, augO_s, lstAt_z, lstAt_s, lstAt_al, lstAt_e, lstAt_ar, Nat.sub_self, Nat.add_sub_cancel_left, Nat.reduceSubDiff, List.append_assoc, lstAt_set, lstAt_ne, toInts_ints, toInts_nil, toInts_cons, toBls_nil, toBls_cons, Option.map_some, List.set_cons_succ, List.set_cons_zero, List.getElem?_cons_zero, List.getElem?_cons_succ, List.getElem_cons_zero, List.getElem_cons_succ, List.length_cons, List.length_nil, List.length_set, List.length_append, List.length_map, List.nil_append, List.cons_append, List.append_nil, List.set_set, Nat.reduceAdd, Nat.reduceLeDiff, Nat.reduceLT, Nat.reduceSub, true_and, and_true, Bool.not_true, Bool.not_false, decide_true, decide_false, Int.reduceToNat, Int.reducePow, Int.reduceNeg, Int.cast_ofNat_Int, decide_eq_true_eq, Nat.zero_add, Nat.add_zero, Int.toNat_natCast, Int.reduceLT, Int.reduceLE, Int.reduceBNe, Int.reduceEq, Int.natCast_add, Nat.le_refl, eq_self]
        rw [tidy_one (Old.refl g) blw_bl]; exact ⟨rfl, rfl⟩
    | _ => unfold Dt at hw; exact hw.elim
end Law

namespace Law
open PySem Ev
theorem value_at_ok {k : Nat} {h : Hw} {i x : Int} {hd tn : List Int} (h1 : 0 < tn.length ∧ tn.length < 1000000) (h2 : -1000000000 < tn.sum ∧ tn.sum < 1000000000) (hx : 0 ≤ x) :
    PhiN ds (k + 1) 0 [cv i hd tn, .int x] h = .ok (.int (val i hd tn x)) h := by
  refine wp_run (go_value_at ?_)
  unfold s_value_at
  have hm := Int.emod_nonneg (x - hd.length) (show (tn.length : Int) ≠ 0 by omega)
  try simp -implicitDefEqProofs -dsimp (disch := first | omega | (simp only [List.length_set, List.length_append, List.length_cons, List.length_nil, List.length_map]; omega)) only [↓wp_ok, ↓wp_err, ↓wp_exc, ↓wp_bind, ↓wp_var, ↓wp_cst, ↓wp_bin, ↓wp_neg, ↓wp_cmp, ↓wp_and, ↓wp_or, ↓wp_not, ↓wp_ite, ↓wp_tup, ↓wp_lst, ↓wp_idx, ↓wp_slc, ↓wp_call, ↓wp_bi, ↓wp_bl, ↓wp_mt, ↓wp_mk, ↓wp_lr1, ↓wp_lr2, ↓wp_aa, ↓wp_tr2, ↓wp_maxD, ↓wp_srt, ↓wp_glc, ↓wp_rgN, ↓wp_srtD, ↓wp_lc2, ↓wp_i3, ↓wp_iv, ↓mt_pp, ↓mt_ppA, ↓wp_esn, ↓wp_esc, ↓wp_pn, ↓wp_pa, ↓wp_tv, ↓wp_ta, ↓wp_to, ↓wp_tn, ↓wp_lo, ↓wp_ld, ↓wp_lc, ↓wp_tsn, ↓wp_tsc, ↓wp_io, ↓wp_i1, ↓wp_i2, ↓wp_iz, ↓wp_ie, ↓wo_some, ↓wo_none, ↓br_t, ↓br_f, ↓wps_ok, ↓wps_st, ↓wb_add, ↓wb_sub, ↓wb_mulR, ↓wb_mulL, ↓wb_div, ↓wb_mod, ↓wb_pow, ↓wb_addT, ↓wb_mulT, ↓wb_addL, ↓wb_mulLs, ↓wn_neg, ↓wc_eq, ↓wc_ne, ↓wc_lt, ↓wc_le, ↓wc_gt, ↓wc_ge, ↓wc_in, ↓wc_nin, ↓wc_isN, ↓wc_notN, ↓item_int, ↓sl_tup, ↓sl_ref, ↓bi_len, ↓bi_abs, ↓bi_int, ↓bi_intb, ↓bi_isI, ↓bi_max, ↓bi_min, ↓bi_divmod, ↓bi_lcm, ↓bi_gcd, ↓bl_sum, ↓bl_tuple, ↓bl_list, ↓bl_len, ↓bl_max, ↓bl_min, ↓mt_app, ↓mt_ext, ↓mt_ix, ↓setIt_ref, ↓ws_n, ↓ws_c, ↓ws_expr, ↓ws_asg, ↓ws_set, ↓ws_aug, ↓ws_augS, ↓ws_bad, ↓ws_if, ↓ws_for, ↓ws_whl, ↓ws_ret, ↓ws_retN, ↓ws_brk, ↓ws_cont, ↓ws_pass, ↓sq_n, ↓sq_b, ↓sq_c, ↓sq_r, ↓sq_z, ↓fin_ret, ↓fin_next, ↓fin_rz, ↓isTy_cv, ↓isTy_rt, ↓tr_cv, ↓tr_rt, look_z, look_s, rgW_rg, isNon_non, isNon_bl, isNon_int, isNon_str, isNon_tup, isNon_fl, isNon_ref, eqW_int, eqW_bl, tr_non, tr_bl, tr_int, tr_tup, ixN_in, ixN_neg, mtW_ref, seqOf_ref, seqOf_tup, seqOf_fl, seqOf_rt, seqOf_cv, isNon_rt, isNon_cv, isTup_rt, isTup_cv, guOf_rt, guOf_cv, isTy_rt, isTy_cv, cv_eq, rt_eq, asg_rt, asg_cv, asg_var, asg_tup2, asg_tup3, isTy, guOf, isTup, intW, aug_add, aug_sub, augO_a, augO_s, lstAt_z, lstAt_s, lstAt_al, lstAt_e, lstAt_ar, Nat.sub_self, Nat.add_sub_cancel_left, Nat.reduceSubDiff, List.append_assoc, lstAt_set, lstAt_ne, toInts_ints, toInts_nil, toInts_cons, toBls_nil, toBls_cons, Option.map_some, List.set_cons_succ, List.set_cons_zero, List.getElem?_cons_zero, List.getElem?_cons_succ, List.getElem_cons_zero, List.getElem_cons_succ, List.length_cons, List.length_nil, List.length_set, List.length_append, List.length_map, List.nil_append, List.cons_append, List.append_nil, List.set_set, Nat.reduceAdd, Nat.reduceLeDiff, Nat.reduceLT, Nat.reduceSub, true_and, and_true, Bool.not_true, Bool.not_false, decide_true, decide_false, Int.reduceToNat, Int.reducePow, Int.reduceNeg, Int.cast_ofNat_Int, decide_eq_true_eq, Nat.zero_add, Nat.add_zero, Int.toNat_natCast, Int.reduceLT, Int.reduceLE, Int.reduceBNe, Int.reduceEq, Int.natCast_add, Nat.le_refl]
  refine br_intro (fun hz => ?_) (fun hz => ?_)
  · try simp -implicitDefEqProofs -dsimp (disch := first | omega | (simp only [List.length_set, List.length_append, List.length_cons, List.length_nil, List.length_map]; omega)) only [↓wp_ok, ↓wp_err, ↓wp_exc, ↓wp_bind, ↓wp_var, ↓wp_cst, ↓wp_bin, ↓wp_neg, ↓wp_cmp, ↓wp_and, ↓wp_or, ↓wp_not, ↓wp_ite, ↓wp_tup, ↓wp_lst, ↓wp_idx, ↓wp_slc, ↓wp_call, ↓wp_bi, ↓wp_bl, ↓wp_mt, ↓wp_mk, ↓wp_lr1, ↓wp_lr2, ↓wp_aa, ↓wp_tr2, ↓wp_maxD, ↓wp_srt, ↓wp_glc, ↓wp_rgN, ↓wp_srtD, ↓wp_lc2, ↓wp_i3, ↓wp_iv, ↓mt_pp, ↓mt_ppA, ↓wp_esn, ↓wp_esc, ↓wp_pn, ↓wp_pa, ↓wp_tv, ↓wp_ta, ↓wp_to, ↓wp_tn, ↓wp_lo, ↓wp_ld, ↓wp_lc, ↓wp_tsn, ↓wp_tsc, ↓wp_io, ↓wp_i1, ↓wp_i2, ↓wp_iz, ↓wp_ie, ↓wo_some, ↓wo_none, ↓br_t, ↓br_f, ↓wps_ok, ↓wps_st, ↓wb_add, ↓wb_sub, ↓wb_mulR, ↓wb_mulL, ↓wb_div, ↓wb_mod, ↓wb_pow, ↓wb_addT, ↓wb_mulT, ↓wb_addL, ↓wb_mulLs, ↓wn_neg, ↓wc_eq, ↓wc_ne, ↓wc_lt, ↓wc_le, ↓wc_gt, ↓wc_ge, ↓wc_in, ↓wc_nin, ↓wc_isN, ↓wc_notN, ↓item_int, ↓sl_tup, ↓sl_ref, ↓bi_len, ↓bi_abs, ↓bi_int, ↓bi_intb, ↓bi_isI, ↓bi_max, ↓bi_min, ↓bi_divmod, ↓bi_lcm, ↓bi_gcd, ↓bl_sum, ↓bl_tuple, ↓bl_list, ↓bl_len, ↓bl_max, ↓bl_min, ↓mt_app, ↓mt_ext, ↓mt_ix, ↓setIt_ref, ↓ws_n, ↓ws_c, ↓ws_expr, ↓ws_asg, ↓ws_set, ↓ws_aug, ↓ws_augS, ↓ws_bad, ↓ws_if, ↓ws_for, ↓ws_whl, ↓ws_ret, ↓ws_retN, ↓ws_brk, ↓ws_cont, ↓ws_pass, ↓sq_n, ↓sq_b, ↓sq_c, ↓sq_r, ↓sq_z, ↓fin_ret, ↓fin_next, ↓fin_rz, ↓isTy_cv, ↓isTy_rt, ↓tr_cv, ↓tr_rt, look_z, look_s, rgW_rg, isNon_non, isNon_bl, isNon_int, isNon_str, isNon_tup, isNon_fl, isNon_ref, eqW_int, eqW_bl, tr_non, tr_bl, tr_int, tr_tup, ixN_in, ixN_neg, mtW_ref, seqOf_ref, seqOf_tup, seqOf_fl, seqOf_rt, seqOf_cv, isNon_rt, isNon_cv, isTup_rt, isTup_cv, guOf_rt, guOf_cv, isTy_rt, isTy_cv, cv_eq, rt_eq, asg_rt, asg_cv, asg_var, asg_tup2, asg_tup3, isTy, guOf, isTup, intW, aug_add, aug_sub, augO_a, augO_s, lstAt_z, lstAt_s, lstAt_al, lstAt_e, lstAt_ar, Nat.sub_self, Nat.add_sub_cancel_left, Nat.reduceSubDiff, List.append_assoc, lstAt_set, lstAt_ne, toInts_ints, toInts_nil, toInts_cons, toBls_nil, toBls_cons, Option.map_some, List.set_cons_succ, List.set_cons_zero, List.getElem?_cons_zero, List.getElem?_cons_succ, List.getElem_cons_zero, List.getElem_cons_succ, List.length_cons, List.length_nil, List.length_set, List.length_append, List.length_map, List.nil_append, List.cons_append, List.append_nil, List.set_set, Nat.reduceAdd, Nat.reduceLeDiff, Nat.reduceLT, Nat.reduceSub, true_and, and_true, Bool.not_true, Bool.not_false, decide_true, decide_false, Int.reduceToNat, Int.reducePow, Int.reduceNeg, Int.cast_ofNat_Int, decide_eq_true_eq, Nat.zero_add, Nat.add_zero, Int.toNat_natCast, Int.reduceLT, Int.reduceLE, Int.reduceBNe, Int.reduceEq, Int.natCast_add, Nat.le_refl, cut_take, take_map]
    rw [tidy_one (Old.refl h) blw_int]
    refine ⟨?_, rfl⟩
    unfold val; rw [if_pos hz]
  · try simp -implicitDefEqProofs -dsimp (disch := first | omega | (simp only [List.length_set, List.length_append, List.length_cons, List.length_nil, List.length_map]; omega)) only [↓wp_ok, ↓wp_err, ↓wp_exc, ↓wp_bind, ↓wp_var, ↓wp_cst, ↓wp_bin, ↓wp_neg, ↓wp_cmp, ↓wp_and, ↓wp_or, ↓wp_not, ↓wp_ite, ↓wp_tup, ↓wp_lst, ↓wp_idx, ↓wp_slc, ↓wp_call, ↓wp_bi, ↓wp_bl, ↓wp_mt, ↓wp_mk, ↓wp_lr1, ↓wp_lr2, ↓wp_aa, ↓wp_tr2, ↓wp_maxD, ↓wp_srt, ↓wp_glc, ↓wp_rgN, ↓wp_srtD, ↓wp_lc2, ↓wp_i3, ↓wp_iv, ↓mt_pp, ↓mt_ppA, ↓wp_esn, ↓wp_esc, ↓wp_pn, ↓wp_pa, ↓wp_tv, ↓wp_ta, ↓wp_to, ↓wp_tn, ↓wp_lo, ↓wp_ld, ↓wp_lc, ↓wp_tsn, ↓wp_tsc, ↓wp_io, ↓wp_i1, ↓wp_i2, ↓wp_iz, ↓wp_ie, ↓wo_some, ↓wo_none, ↓br_t, ↓br_f, ↓wps_ok, ↓wps_st, ↓wb_add, ↓wb_sub, ↓wb_mulR, ↓wb_mulL, ↓wb_div, ↓wb_mod, ↓wb_pow, ↓wb_addT, ↓wb_mulT, ↓wb_addL, ↓wb_mulLs, ↓wn_neg, ↓wc_eq, ↓wc_ne, ↓wc_lt, ↓wc_le, ↓wc_gt, ↓wc_ge, ↓wc_in, ↓wc_nin, ↓wc_isN, ↓wc_notN, ↓item_int, ↓sl_tup, ↓sl_ref, ↓bi_len, ↓bi_abs, ↓bi_int, ↓bi_intb, ↓bi_isI, ↓bi_max, ↓bi_min, ↓bi_divmod, ↓bi_lcm, ↓bi_gcd, ↓bl_sum, ↓bl_tuple, ↓bl_list, ↓bl_len, ↓bl_max, ↓bl_min, ↓mt_app, ↓mt_ext, ↓mt_ix, ↓setIt_ref, ↓ws_n, ↓ws_c, ↓ws_expr, ↓ws_asg, ↓ws_set, ↓ws_aug, ↓ws_augS, ↓ws_bad, ↓ws_if, ↓ws_for, ↓ws_whl, ↓ws_ret, ↓ws_retN, ↓ws_brk, ↓ws_cont, ↓ws_pass, ↓sq_n, ↓sq_b, ↓sq_c, ↓sq_r, ↓sq_z, ↓fin_ret, ↓fin_next, ↓fin_rz, ↓isTy_cv, ↓isTy_rt, ↓tr_cv, ↓tr_rt, look_z, look_s, rgW_rg, isNon_non, isNon_bl, isNon_int, isNon_str, isNon_tup, isNon_fl, isNon_ref, eqW_int, eqW_bl, tr_non, tr_bl, tr_int, tr_tup, ixN_in, ixN_neg, mtW_ref, seqOf_ref, seqOf_tup, seqOf_fl, seqOf_rt, seqOf_cv, isNon_rt, isNon_cv, isTup_rt, isTup_cv, guOf_rt, guOf_cv, isTy_rt, isTy_cv, cv_eq, rt_eq, asg_rt, asg_cv, asg_var, asg_tup2, asg_tup3, isTy, guOf, isTup, intW, aug_add, aug_sub, augO_a, augO_s, lstAt_z, lstAt_s, lstAt_al, lstAt_e, lstAt_ar, Nat.sub_self, Nat.add_sub_cancel_left, Nat.reduceSubDiff, List.append_assoc, lstAt_set, lstAt_ne, toInts_ints, toInts_nil, toInts_cons, toBls_nil, toBls_cons, Option.map_some, List.set_cons_succ, List.set_cons_zero, List.getElem?_cons_zero, List.getElem?_cons_succ, List.getElem_cons_zero, List.getElem_cons_succ, List.length_cons, List.length_nil, List.length_set, List.length_append, List.length_map, List.nil_append, List.cons_append, List.append_nil, List.set_set, Nat.reduceAdd, Nat.reduceLeDiff, Nat.reduceLT, Nat.reduceSub, true_and, and_true, Bool.not_true, Bool.not_false, decide_true, decide_false, Int.reduceToNat, Int.reducePow, Int.reduceNeg, Int.cast_ofNat_Int, decide_eq_true_eq, Nat.zero_add, Nat.add_zero, Int.toNat_natCast, Int.reduceLT, Int.reduceLE, Int.reduceBNe, Int.reduceEq, Int.natCast_add, Nat.le_refl, cut_take, take_map]
    rw [tidy_one (Old.refl h) blw_int]
    refine ⟨?_, rfl⟩
    unfold val; rw [if_neg hz]
end Law

namespace Law
open PySem Ev
theorem val_at_nat {k : Nat} {h : Hw} {i : Int} {x : Nat} {hd tn : List Int} (h1 : 0 < tn.length ∧ tn.length < 1000000) (h2 : -1000000000 < tn.sum ∧ tn.sum < 1000000000) :
    PhiN ds (k + 1) 0 [cv i hd tn, .int x] h = .ok (.int (i + psum (stp hd tn) x)) h := by
  rw [value_at_ok h1 h2 (by omega), val_nat i hd tn h1.1]
end Law

namespace Law
open PySem Ev
theorem step_ok {k : Nat} {h : Hw} {i : Int} {hd tn : List Int} {x : Nat} (ht : 0 < tn.length) : PhiN ds (k + 1) 9 [cv i hd tn, .int x] h = .ok (.int (stp hd tn x)) h := by
  refine wp_run (go__law_step ?_)
  unfold s__law_step
  try simp -implicitDefEqProofs -dsimp (disch := first | omega | (simp only [List.length_set, List.length_append, List.length_cons, List.length_nil, List.length_map]; omega)) only [↓wp_ok, ↓wp_err, ↓wp_exc, ↓wp_bind, ↓wp_var, ↓wp_cst, ↓wp_bin, ↓wp_neg, ↓wp_cmp, ↓wp_and, ↓wp_or, ↓wp_not, ↓wp_ite, ↓wp_tup, ↓wp_lst, ↓wp_idx, ↓wp_slc, ↓wp_call, ↓wp_bi, ↓wp_bl, ↓wp_mt, ↓wp_mk, ↓wp_lr1, ↓wp_lr2, ↓wp_aa, ↓wp_tr2, ↓wp_maxD, ↓wp_srt, ↓wp_glc, ↓wp_rgN, ↓wp_srtD, ↓wp_lc2, ↓wp_i3, ↓wp_iv, ↓mt_pp, ↓mt_ppA, ↓wp_esn, ↓wp_esc, ↓wp_pn, ↓wp_pa, ↓wp_tv, ↓wp_ta, ↓wp_to, ↓wp_tn, ↓wp_lo, ↓wp_ld, ↓wp_lc, ↓wp_tsn, ↓wp_tsc, ↓wp_io, ↓wp_i1, ↓wp_i2, ↓wp_iz, ↓wp_ie, ↓wo_some, ↓wo_none, ↓br_t, ↓br_f, ↓wps_ok, ↓wps_st, ↓wb_add, ↓wb_sub, ↓wb_mulR, ↓wb_mulL, ↓wb_div, ↓wb_mod, ↓wb_pow, ↓wb_addT, ↓wb_mulT, ↓wb_addL, ↓wb_mulLs, ↓wn_neg, ↓wc_eq, ↓wc_ne, ↓wc_lt, ↓wc_le, ↓wc_gt, ↓wc_ge, ↓wc_in, ↓wc_nin, ↓wc_isN, ↓wc_notN, ↓item_int, ↓sl_tup, ↓sl_ref, ↓bi_len, ↓bi_abs, ↓bi_int, ↓bi_intb, ↓bi_isI, ↓bi_max, ↓bi_min, ↓bi_divmod, ↓bi_lcm, ↓bi_gcd, ↓bl_sum, ↓bl_tuple, ↓bl_list, ↓bl_len, ↓bl_max, ↓bl_min, ↓mt_app, ↓mt_ext, ↓mt_ix, ↓setIt_ref, ↓ws_n, ↓ws_c, ↓ws_expr, ↓ws_asg, ↓ws_set, ↓ws_aug, ↓ws_augS, ↓ws_bad, ↓ws_if, ↓ws_for, ↓ws_whl, ↓ws_ret, ↓ws_retN, ↓ws_brk, ↓ws_cont, ↓ws_pass, ↓sq_n, ↓sq_b, ↓sq_c, ↓sq_r, ↓sq_z, ↓fin_ret, ↓fin_next, ↓fin_rz, ↓isTy_cv, ↓isTy_rt, ↓tr_cv, ↓tr_rt, look_z, look_s, rgW_rg, isNon_non, isNon_bl, isNon_int, isNon_str, isNon_tup, isNon_fl, isNon_ref, eqW_int, eqW_bl, tr_non, tr_bl, tr_int, tr_tup, ixN_in, ixN_neg, mtW_ref, seqOf_ref, seqOf_tup, seqOf_fl, seqOf_rt, seqOf_cv, isNon_rt, isNon_cv, isTup_rt, isTup_cv, guOf_rt, guOf_cv, isTy_rt, isTy_cv, cv_eq, rt_eq, asg_rt, asg_cv, asg_var, asg_tup2, asg_tup3, isTy, guOf, isTup, intW, aug_add, aug_sub, augO_a, augO_s, lstAt_z, lstAt_s, lstAt_al, lstAt_e, lstAt_ar, Nat.sub_self, Nat.add_sub_cancel_left, Nat.reduceSubDiff, List.append_assoc, lstAt_set, lstAt_ne, toInts_ints, toInts_nil, toInts_cons, toBls_nil, toBls_cons, Option.map_some, List.set_cons_succ, List.set_cons_zero, List.getElem?_cons_zero, List.getElem?_cons_succ, List.getElem_cons_zero, List.getElem_cons_succ, List.length_cons, List.length_nil, List.length_set, List.length_append, List.length_map, List.nil_append, List.cons_append, List.append_nil, List.set_set, Nat.reduceAdd, Nat.reduceLeDiff, Nat.reduceLT, Nat.reduceSub, true_and, and_true, Bool.not_true, Bool.not_false, decide_true, decide_false, Int.reduceToNat, Int.reducePow, Int.reduceNeg, Int.cast_ofNat_Int, decide_eq_true_eq, Nat.zero_add, Nat.add_zero, Int.toNat_natCast, Int.reduceLT, Int.reduceLE, Int.reduceBNe, Int.reduceEq, Int.natCast_add, Nat.le_refl]
  refine br_intro (fun hz => ?_) (fun hz => ?_)
  · have hx : x < hd.length := by omega
    have eg := List.getElem?_eq_getElem hx
    try simp -implicitDefEqProofs -dsimp (disch := first | omega | (simp only [List.length_set, List.length_append, List.length_cons, List.length_nil, List.length_map]; omega)) only [↓wp_ok, ↓wp_err, ↓wp_exc, ↓wp_bind, ↓wp_var, ↓wp_cst, ↓wp_bin, ↓wp_neg, ↓wp_cmp, ↓wp_and, ↓wp_or, ↓wp_not, ↓wp_ite, ↓wp_tup, ↓wp_lst, ↓wp_idx, ↓wp_slc, ↓wp_call, ↓wp_bi, ↓wp_bl, ↓wp_mt, ↓wp_mk, ↓wp_lr1, ↓wp_lr2, ↓wp_aa, ↓wp_tr2, ↓wp_maxD, ↓wp_srt, ↓wp_glc, ↓wp_rgN, ↓wp_srtD, ↓wp_lc2, ↓wp_i3, ↓wp_iv, ↓mt_pp, ↓mt_ppA, ↓wp_esn, ↓wp_esc, ↓wp_pn, ↓wp_pa, ↓wp_tv, ↓wp_ta, ↓wp_to, ↓wp_tn, ↓wp_lo, ↓wp_ld, ↓wp_lc, ↓wp_tsn, ↓wp_tsc, ↓wp_io, ↓wp_i1, ↓wp_i2, ↓wp_iz, ↓wp_ie, ↓wo_some, ↓wo_none, ↓br_t, ↓br_f, ↓wps_ok, ↓wps_st, ↓wb_add, ↓wb_sub, ↓wb_mulR, ↓wb_mulL, ↓wb_div, ↓wb_mod, ↓wb_pow, ↓wb_addT, ↓wb_mulT, ↓wb_addL, ↓wb_mulLs, ↓wn_neg, ↓wc_eq, ↓wc_ne, ↓wc_lt, ↓wc_le, ↓wc_gt, ↓wc_ge, ↓wc_in, ↓wc_nin, ↓wc_isN, ↓wc_notN, ↓item_int, ↓sl_tup, ↓sl_ref, ↓bi_len, ↓bi_abs, ↓bi_int, ↓bi_intb, ↓bi_isI, ↓bi_max, ↓bi_min, ↓bi_divmod, ↓bi_lcm, ↓bi_gcd, ↓bl_sum, ↓bl_tuple, ↓bl_list, ↓bl_len, ↓bl_max, ↓bl_min, ↓mt_app, ↓mt_ext, ↓mt_ix, ↓setIt_ref, ↓ws_n, ↓ws_c, ↓ws_expr, ↓ws_asg, ↓ws_set, ↓ws_aug, ↓ws_augS, ↓ws_bad, ↓ws_if, ↓ws_for, ↓ws_whl, ↓ws_ret, ↓ws_retN, ↓ws_brk, ↓ws_cont, ↓ws_pass, ↓sq_n, ↓sq_b, ↓sq_c, ↓sq_r, ↓sq_z, ↓fin_ret, ↓fin_next, ↓fin_rz, ↓isTy_cv, ↓isTy_rt, ↓tr_cv, ↓tr_rt, look_z, look_s, rgW_rg, isNon_non, isNon_bl, isNon_int, isNon_str, isNon_tup, isNon_fl, isNon_ref, eqW_int, eqW_bl, tr_non, tr_bl, tr_int, tr_tup, ixN_in, ixN_neg, mtW_ref, seqOf_ref, seqOf_tup, seqOf_fl, seqOf_rt, seqOf_cv, isNon_rt, isNon_cv, isTup_rt, isTup_cv, guOf_rt, guOf_cv, isTy_rt, isTy_cv, cv_eq, rt_eq, asg_rt, asg_cv, asg_var, asg_tup2, asg_tup3, isTy, guOf, isTup, intW, aug_add, aug_sub, augO_a, augO_s, lstAt_z, lstAt_s, lstAt_al, lstAt_e, lstAt_ar, Nat.sub_self, Nat.add_sub_cancel_left, Nat.reduceSubDiff, List.append_assoc, lstAt_set, lstAt_ne, toInts_ints, toInts_nil, toInts_cons, toBls_nil, toBls_cons, Option.map_some, List.set_cons_succ, List.set_cons_zero, List.getElem?_cons_zero, List.getElem?_cons_succ, List.getElem_cons_zero, List.getElem_cons_succ, List.length_cons, List.length_nil, List.length_set, List.length_append, List.length_map, List.nil_append, List.cons_append, List.append_nil, List.set_set, Nat.reduceAdd, Nat.reduceLeDiff, Nat.reduceLT, Nat.reduceSub, true_and, and_true, Bool.not_true, Bool.not_false, decide_true, decide_false, Int.reduceToNat, Int.reducePow, Int.reduceNeg, Int.cast_ofNat_Int, decide_eq_true_eq, Nat.zero_add, Nat.add_zero, Int.toNat_natCast, Int.reduceLT, Int.reduceLE, Int.reduceBNe, Int.reduceEq, Int.natCast_add, Nat.le_refl, ints_ge, eg]
    rw [tidy_one (Old.refl h) blw_int]
    exact ⟨by rw [stp_hd hx], rfl⟩
  · have hm := Nat.mod_lt (x - hd.length) ht
    have eg := List.getElem?_eq_getElem (l := tn) (i := (x - hd.length) % tn.length) hm
    have em := md_nat (x := x) (H := hd.length) (L := tn.length) (by omega)
    try simp -implicitDefEqProofs -dsimp (disch := first | omega | (simp only [List.length_set, List.length_append, List.length_cons, List.length_nil, List.length_map]; omega)) only [↓wp_ok, ↓wp_err, ↓wp_exc, ↓wp_bind, ↓wp_var, ↓wp_cst, ↓wp_bin, ↓wp_neg, ↓wp_cmp, ↓wp_and, ↓wp_or, ↓wp_not, ↓wp_ite, ↓wp_tup, ↓wp_lst, ↓wp_idx, ↓wp_slc, ↓wp_call, ↓wp_bi, ↓wp_bl, ↓wp_mt, ↓wp_mk, ↓wp_lr1, ↓wp_lr2, ↓wp_aa, ↓wp_tr2, ↓wp_maxD, ↓wp_srt, ↓wp_glc, ↓wp_rgN, ↓wp_srtD, ↓wp_lc2, ↓wp_i3, ↓wp_iv, ↓mt_pp, ↓mt_ppA, ↓wp_esn, ↓wp_esc, ↓wp_pn, ↓wp_pa, ↓wp_tv, ↓wp_ta, ↓wp_to, ↓wp_tn, ↓wp_lo, ↓wp_ld, ↓wp_lc, ↓wp_tsn, ↓wp_tsc, ↓wp_io, ↓wp_i1, ↓wp_i2, ↓wp_iz, ↓wp_ie, ↓wo_some, ↓wo_none, ↓br_t, ↓br_f, ↓wps_ok, ↓wps_st, ↓wb_add, ↓wb_sub, ↓wb_mulR, ↓wb_mulL, ↓wb_div, ↓wb_mod, ↓wb_pow, ↓wb_addT, ↓wb_mulT, ↓wb_addL, ↓wb_mulLs, ↓wn_neg, ↓wc_eq, ↓wc_ne, ↓wc_lt, ↓wc_le, ↓wc_gt, ↓wc_ge, ↓wc_in, ↓wc_nin, ↓wc_isN, ↓wc_notN, ↓item_int, ↓sl_tup, ↓sl_ref, ↓bi_len, ↓bi_abs, ↓bi_int, ↓bi_intb, ↓bi_isI, ↓bi_max, ↓bi_min, ↓bi_divmod, ↓bi_lcm, ↓bi_gcd, ↓bl_sum, ↓bl_tuple, ↓bl_list, ↓bl_len, ↓bl_max, ↓bl_min, ↓mt_app, ↓mt_ext, ↓mt_ix, ↓setIt_ref, ↓ws_n, ↓ws_c, ↓ws_expr, ↓ws_asg, ↓ws_set, ↓ws_aug, ↓ws_augS, ↓ws_bad, ↓ws_if, ↓ws_for, ↓ws_whl, ↓ws_ret, ↓ws_retN, ↓ws_brk, ↓ws_cont, ↓ws_pass, ↓sq_n, ↓sq_b, ↓sq_c, ↓sq_r, ↓sq_z, ↓fin_ret, ↓fin_next, ↓fin_rz, ↓isTy_cv, ↓isTy_rt, ↓tr_cv, ↓tr_rt, look_z, look_s, rgW_rg, isNon_non, isNon_bl, isNon_int, isNon_str, isNon_tup, isNon_fl, isNon_ref, eqW_int, eqW_bl, tr_non, tr_bl, tr_int, tr_tup, ixN_in, ixN_neg, mtW_ref, seqOf_ref, seqOf_tup, seqOf_fl, seqOf_rt, seqOf_cv, isNon_rt, isNon_cv, isTup_rt, isTup_cv, guOf_rt, guOf_cv, isTy_rt, isTy_cv, cv_eq, rt_eq, asg_rt, asg_cv, asg_var, asg_tup2, asg_tup3, isTy, guOf, isTup, intW, aug_add, aug_sub, augO_a, augO_s, lstAt_z, lstAt_s, lstAt_al, lstAt_e, lstAt_ar, Nat.sub_self, Nat.add_sub_cancel_left, Nat.reduceSubDiff, List.append_assoc, lstAt_set, lstAt_ne, toInts_ints, toInts_nil, toInts_cons, toBls_nil, toBls_cons, Option.map_some, List.set_cons_succ, List.set_cons_zero, List.getElem?_cons_zero, List.getElem?_cons_succ, List.getElem_cons_zero, List.getElem_cons_succ, List.length_cons, List.length_nil, List.length_set, List.length_append, List.length_map, List.nil_append, List.cons_append, List.append_nil, List.set_set, Nat.reduceAdd, Nat.reduceLeDiff, Nat.reduceLT, Nat.reduceSub, true_and, and_true, Bool.not_true, Bool.not_false, decide_true, decide_false, Int.reduceToNat, Int.reducePow, Int.reduceNeg, Int.cast_ofNat_Int, decide_eq_true_eq, Nat.zero_add, Nat.add_zero, Int.toNat_natCast, Int.reduceLT, Int.reduceLE, Int.reduceBNe, Int.reduceEq, Int.natCast_add, Nat.le_refl, ints_ge, eg, em]
    rw [tidy_one (Old.refl h) blw_int]
    exact ⟨by unfold stp; rw [if_neg (by omega), eg]; rfl, rfl⟩
end Law

namespace Law
open PySem Ev
theorem least_ok {k : Nat} {h : Hw} {i x : Int} {hd tn : List Int} (hu : ∀ k, 0 ≤ stp hd tn k) (hS : 0 < tn.sum ∧ tn.sum < 1000000000) (hL : tn.length < 1000000) :
    ∃ n : Nat, Least i (stp hd tn) x n ∧ PhiN ds (k + 1) 1 [cv i hd tn, .int x] h = .ok (.int n) h := by
  suffices hs : wp (PhiN ds (k + 1) 1 [cv i hd tn, .int x] h) (fun w g => g = h ∧ ∃ n : Nat, w = .int n ∧ Least i (stp hd tn) x n) noE by
    cases e : PhiN ds (k + 1) 1 [cv i hd tn, .int x] h with
    | ok w g =>
      rw [e] at hs
      obtain ⟨rfl, n, rfl, a⟩ := hs
      exact ⟨n, a, rfl⟩
    | exc _ _ => rw [e] at hs; exact hs.elim
    | err => rw [e] at hs; exact hs.elim
  refine go_least_point ?_
  unfold s_least_point
  try simp -implicitDefEqProofs -dsimp (disch := first | omega | (simp only [List.length_set, List.length_append, List.length_cons, List.length_nil, List.length_map]; omega)) only [↓wp_ok, ↓wp_err, ↓wp_exc, ↓wp_bind, ↓wp_var, ↓wp_cst, ↓wp_bin, ↓wp_neg, ↓wp_cmp, ↓wp_and, ↓wp_or, ↓wp_not, ↓wp_ite, ↓wp_tup, ↓wp_lst, ↓wp_idx, ↓wp_slc, ↓wp_call, ↓wp_bi, ↓wp_bl, ↓wp_mt, ↓wp_mk, ↓wp_lr1, ↓wp_lr2, ↓wp_aa, ↓wp_tr2, ↓wp_maxD, ↓wp_srt, ↓wp_glc, ↓wp_rgN, ↓wp_srtD, ↓wp_lc2, ↓wp_i3, ↓wp_iv, ↓mt_pp, ↓mt_ppA, ↓wp_esn, ↓wp_esc, ↓wp_pn, ↓wp_pa, ↓wp_tv, ↓wp_ta, ↓wp_to, ↓wp_tn, ↓wp_lo, ↓wp_ld, ↓wp_lc, ↓wp_tsn, ↓wp_tsc, ↓wp_io, ↓wp_i1, ↓wp_i2, ↓wp_iz, ↓wp_ie, ↓wo_some, ↓wo_none, ↓br_t, ↓br_f, ↓wps_ok, ↓wps_st, ↓wb_add, ↓wb_sub, ↓wb_mulR, ↓wb_mulL, ↓wb_div, ↓wb_mod, ↓wb_pow, ↓wb_addT, ↓wb_mulT, ↓wb_addL, ↓wb_mulLs, ↓wn_neg, ↓wc_eq, ↓wc_ne, ↓wc_lt, ↓wc_le, ↓wc_gt, ↓wc_ge, ↓wc_in, ↓wc_nin, ↓wc_isN, ↓wc_notN, ↓item_int, ↓sl_tup, ↓sl_ref, ↓bi_len, ↓bi_abs, ↓bi_int, ↓bi_intb, ↓bi_isI, ↓bi_max, ↓bi_min, ↓bi_divmod, ↓bi_lcm, ↓bi_gcd, ↓bl_sum, ↓bl_tuple, ↓bl_list, ↓bl_len, ↓bl_max, ↓bl_min, ↓mt_app, ↓mt_ext, ↓mt_ix, ↓setIt_ref, ↓ws_n, ↓ws_c, ↓ws_expr, ↓ws_asg, ↓ws_set, ↓ws_aug, ↓ws_augS, ↓ws_bad, ↓ws_if, ↓ws_for, ↓ws_whl, ↓ws_ret, ↓ws_retN, ↓ws_brk, ↓ws_cont, ↓ws_pass, ↓sq_n, ↓sq_b, ↓sq_c, ↓sq_r, ↓sq_z, ↓fin_ret, ↓fin_next, ↓fin_rz, ↓isTy_cv, ↓isTy_rt, ↓tr_cv, ↓tr_rt, look_z, look_s, rgW_rg, isNon_non, isNon_bl, isNon_int, isNon_str, isNon_tup, isNon_fl, isNon_ref, eqW_int, eqW_bl, tr_non, tr_bl, tr_int, tr_tup, ixN_in, ixN_neg, mtW_ref, seqOf_ref, seqOf_tup, seqOf_fl, seqOf_rt, seqOf_cv, isNon_rt, isNon_cv, isTup_rt, isTup_cv, guOf_rt, guOf_cv, isTy_rt, isTy_cv, cv_eq, rt_eq, asg_rt, asg_cv, asg_var, asg_tup2, asg_tup3, isTy, guOf, isTup, intW, aug_add, aug_sub, augO_a, augO_s, lstAt_z, lstAt_s, lstAt_al, lstAt_e, lstAt_ar, Nat.sub_self, Nat.add_sub_cancel_left, Nat.reduceSubDiff, List.append_assoc, lstAt_set, lstAt_ne, toInts_ints, toInts_nil, toInts_cons, toBls_nil, toBls_cons, Option.map_some, List.set_cons_succ, List.set_cons_zero, List.getElem?_cons_zero, List.getElem?_cons_succ, List.getElem_cons_zero, List.getElem_cons_succ, List.length_cons, List.length_nil, List.length_set, List.length_append, List.length_map, List.nil_append, List.cons_append, List.append_nil, List.set_set, Nat.reduceAdd, Nat.reduceLeDiff, Nat.reduceLT, Nat.reduceSub, true_and, and_true, Bool.not_true, Bool.not_false, decide_true, decide_false, Int.reduceToNat, Int.reducePow, Int.reduceNeg, Int.cast_ofNat_Int, decide_eq_true_eq, Nat.zero_add, Nat.add_zero, Int.toNat_natCast, Int.reduceLT, Int.reduceLE, Int.reduceBNe, Int.reduceEq, Int.natCast_add, Nat.le_refl]
  refine br_intro (fun hz => ?_) (fun hz => ?_)
  · try simp -implicitDefEqProofs -dsimp (disch := first | omega | (simp only [List.length_set, List.length_append, List.length_cons, List.length_nil, List.length_map]; omega)) only [↓wp_ok, ↓wp_err, ↓wp_exc, ↓wp_bind, ↓wp_var, ↓wp_cst, ↓wp_bin, ↓wp_neg, ↓wp_cmp, ↓wp_and, ↓wp_or, ↓wp_not, ↓wp_ite, ↓wp_tup, ↓wp_lst, ↓wp_idx, ↓wp_slc, ↓wp_call, ↓wp_bi, ↓wp_bl, ↓wp_mt, ↓wp_mk, ↓wp_lr1, ↓wp_lr2, ↓wp_aa, ↓wp_tr2, ↓wp_maxD, ↓wp_srt, ↓wp_glc, ↓wp_rgN, ↓wp_srtD, ↓wp_lc2, ↓wp_i3, ↓wp_iv, ↓mt_pp, ↓mt_ppA, ↓wp_esn, ↓wp_esc, ↓wp_pn, ↓wp_pa, ↓wp_tv, ↓wp_ta, ↓wp_to, ↓wp_tn, ↓wp_lo, ↓wp_ld, ↓wp_lc, ↓wp_tsn, ↓wp_tsc, ↓wp_io, ↓wp_i1, ↓wp_i2, ↓wp_iz, ↓wp_ie, ↓wo_some, ↓wo_none, ↓br_t, ↓br_f, ↓wps_ok, ↓wps_st, ↓wb_add, ↓wb_sub, ↓wb_mulR, ↓wb_mulL, ↓wb_div, ↓wb_mod, ↓wb_pow, ↓wb_addT, ↓wb_mulT, ↓wb_addL, ↓wb_mulLs, ↓wn_neg, ↓wc_eq, ↓wc_ne, ↓wc_lt, ↓wc_le, ↓wc_gt, ↓wc_ge, ↓wc_in, ↓wc_nin, ↓wc_isN, ↓wc_notN, ↓item_int, ↓sl_tup, ↓sl_ref, ↓bi_len, ↓bi_abs, ↓bi_int, ↓bi_intb, ↓bi_isI, ↓bi_max, ↓bi_min, ↓bi_divmod, ↓bi_lcm, ↓bi_gcd, ↓bl_sum, ↓bl_tuple, ↓bl_list, ↓bl_len, ↓bl_max, ↓bl_min, ↓mt_app, ↓mt_ext, ↓mt_ix, ↓setIt_ref, ↓ws_n, ↓ws_c, ↓ws_expr, ↓ws_asg, ↓ws_set, ↓ws_aug, ↓ws_augS, ↓ws_bad, ↓ws_if, ↓ws_for, ↓ws_whl, ↓ws_ret, ↓ws_retN, ↓ws_brk, ↓ws_cont, ↓ws_pass, ↓sq_n, ↓sq_b, ↓sq_c, ↓sq_r, ↓sq_z, ↓fin_ret, ↓fin_next, ↓fin_rz, ↓isTy_cv, ↓isTy_rt, ↓tr_cv, ↓tr_rt, look_z, look_s, rgW_rg, isNon_non, isNon_bl, isNon_int, isNon_str, isNon_tup, isNon_fl, isNon_ref, eqW_int, eqW_bl, tr_non, tr_bl, tr_int, tr_tup, ixN_in, ixN_neg, mtW_ref, seqOf_ref, seqOf_tup, seqOf_fl, seqOf_rt, seqOf_cv, isNon_rt, isNon_cv, isTup_rt, isTup_cv, guOf_rt, guOf_cv, isTy_rt, isTy_cv, cv_eq, rt_eq, asg_rt, asg_cv, asg_var, asg_tup2, asg_tup3, isTy, guOf, isTup, intW, aug_add, aug_sub, augO_a, augO_s, lstAt_z, lstAt_s, lstAt_al, lstAt_e, lstAt_ar, Nat.sub_self, Nat.add_sub_cancel_left, Nat.reduceSubDiff, List.append_assoc, lstAt_set, lstAt_ne, toInts_ints, toInts_nil, toInts_cons, toBls_nil, toBls_cons, Option.map_some, List.set_cons_succ, List.set_cons_zero, List.getElem?_cons_zero, List.getElem?_cons_succ, List.getElem_cons_zero, List.getElem_cons_succ, List.length_cons, List.length_nil, List.length_set, List.length_append, List.length_map, List.nil_append, List.cons_append, List.append_nil, List.set_set, Nat.reduceAdd, Nat.reduceLeDiff, Nat.reduceLT, Nat.reduceSub, true_and, and_true, Bool.not_true, Bool.not_false, decide_true, decide_false, Int.reduceToNat, Int.reducePow, Int.reduceNeg, Int.cast_ofNat_Int, decide_eq_true_eq, Nat.zero_add, Nat.add_zero, Int.toNat_natCast, Int.reduceLT, Int.reduceLE, Int.reduceBNe, Int.reduceEq, Int.natCast_add, Nat.le_refl]
    rw [tidy_one (Old.refl h) blw_int]
    exact ⟨rfl, 0, rfl, Least.zero (by omega)⟩
  try simp -implicitDefEqProofs -dsimp (disch := first | omega | (simp only [List.length_set, List.length_append, List.length_cons, List.length_nil, List.length_map]; omega)) only [↓wp_ok, ↓wp_err, ↓wp_exc, ↓wp_bind, ↓wp_var, ↓wp_cst, ↓wp_bin, ↓wp_neg, ↓wp_cmp, ↓wp_and, ↓wp_or, ↓wp_not, ↓wp_ite, ↓wp_tup, ↓wp_lst, ↓wp_idx, ↓wp_slc, ↓wp_call, ↓wp_bi, ↓wp_bl, ↓wp_mt, ↓wp_mk, ↓wp_lr1, ↓wp_lr2, ↓wp_aa, ↓wp_tr2, ↓wp_maxD, ↓wp_srt, ↓wp_glc, ↓wp_rgN, ↓wp_srtD, ↓wp_lc2, ↓wp_i3, ↓wp_iv, ↓mt_pp, ↓mt_ppA, ↓wp_esn, ↓wp_esc, ↓wp_pn, ↓wp_pa, ↓wp_tv, ↓wp_ta, ↓wp_to, ↓wp_tn, ↓wp_lo, ↓wp_ld, ↓wp_lc, ↓wp_tsn, ↓wp_tsc, ↓wp_io, ↓wp_i1, ↓wp_i2, ↓wp_iz, ↓wp_ie, ↓wo_some, ↓wo_none, ↓br_t, ↓br_f, ↓wps_ok, ↓wps_st, ↓wb_add, ↓wb_sub, ↓wb_mulR, ↓wb_mulL, ↓wb_div, ↓wb_mod, ↓wb_pow, ↓wb_addT, ↓wb_mulT, ↓wb_addL, ↓wb_mulLs, ↓wn_neg, ↓wc_eq, ↓wc_ne, ↓wc_lt, ↓wc_le, ↓wc_gt, ↓wc_ge, ↓wc_in, ↓wc_nin, ↓wc_isN, ↓wc_notN, ↓item_int, ↓sl_tup, ↓sl_ref, ↓bi_len, ↓bi_abs, ↓bi_int, ↓bi_intb, ↓bi_isI, ↓bi_max, ↓bi_min, ↓bi_divmod, ↓bi_lcm, ↓bi_gcd, ↓bl_sum, ↓bl_tuple, ↓bl_list, ↓bl_len, ↓bl_max, ↓bl_min, ↓mt_app, ↓mt_ext, ↓mt_ix, ↓setIt_ref, ↓ws_n, ↓ws_c, ↓ws_expr, ↓ws_asg, ↓ws_set, ↓ws_aug, ↓ws_augS, ↓ws_bad, ↓ws_if, ↓ws_for, ↓ws_whl, ↓ws_ret, ↓ws_retN, ↓ws_brk, ↓ws_cont, ↓ws_pass, ↓sq_n, ↓sq_b, ↓sq_c, ↓sq_r, ↓sq_z, ↓fin_ret, ↓fin_next, ↓fin_rz, ↓isTy_cv, ↓isTy_rt, ↓tr_cv, ↓tr_rt, look_z, look_s, rgW_rg, isNon_non, isNon_bl, isNon_int, isNon_str, isNon_tup, isNon_fl, isNon_ref, eqW_int, eqW_bl, tr_non, tr_bl, tr_int, tr_tup, ixN_in, ixN_neg, mtW_ref, seqOf_ref, seqOf_tup, seqOf_fl, seqOf_rt, seqOf_cv, isNon_rt, isNon_cv, isTup_rt, isTup_cv, guOf_rt, guOf_cv, isTy_rt, isTy_cv, cv_eq, rt_eq, asg_rt, asg_cv, asg_var, asg_tup2, asg_tup3, isTy, guOf, isTup, intW, aug_add, aug_sub, augO_a, augO_s, lstAt_z, lstAt_s, lstAt_al, lstAt_e, lstAt_ar, Nat.sub_self, Nat.add_sub_cancel_left, Nat.reduceSubDiff, List.append_assoc, lstAt_set, lstAt_ne, toInts_ints, toInts_nil, toInts_cons, toBls_nil, toBls_cons, Option.map_some, List.set_cons_succ, List.set_cons_zero, List.getElem?_cons_zero, List.getElem?_cons_succ, List.getElem_cons_zero, List.getElem_cons_succ, List.length_cons, List.length_nil, List.length_set, List.length_append, List.length_map, List.nil_append, List.cons_append, List.append_nil, List.set_set, Nat.reduceAdd, Nat.reduceLeDiff, Nat.reduceLT, Nat.reduceSub, true_and, and_true, Bool.not_true, Bool.not_false, decide_true, decide_false, Int.reduceToNat, Int.reducePow, Int.reduceNeg, Int.cast_ofNat_Int, decide_eq_true_eq, Nat.zero_add, Nat.add_zero, Int.toNat_natCast, Int.reduceLT, Int.reduceLE, Int.reduceBNe, Int.reduceEq, Int.natCast_add, Nat.le_refl]
  refine wps_for W.int hd (fun pre ρ g => g = h ∧ ∃ (pt lv : Int) (x3 : Option W), ρ = [some (cv i hd tn), some (.int x), some (.int pt), x3, none, some (.int lv), some (.tup (hd.map W.int)), some (.tup (tn.map W.int))] ∧ pt = pre.length ∧ lv = i + pre.sum ∧ lv < x) (fun _ _ _ _ => guOk_nil) ?_ ⟨rfl, _, _, _, rfl, by simp, by simp, by omega⟩ ?_
  · rintro pre a suf ρ g e ⟨rfl, pt, lv, x3, rfl, e1, e2, e3⟩
    try simp -implicitDefEqProofs -dsimp (disch := first | omega | (simp only [List.length_set, List.length_append, List.length_cons, List.length_nil, List.length_map]; omega)) only [↓wp_ok, ↓wp_err, ↓wp_exc, ↓wp_bind, ↓wp_var, ↓wp_cst, ↓wp_bin, ↓wp_neg, ↓wp_cmp, ↓wp_and, ↓wp_or, ↓wp_not, ↓wp_ite, ↓wp_tup, ↓wp_lst, ↓wp_idx, ↓wp_slc, ↓wp_call, ↓wp_bi, ↓wp_bl, ↓wp_mt, ↓wp_mk, ↓wp_lr1, ↓wp_lr2, ↓wp_aa, ↓wp_tr2, ↓wp_maxD, ↓wp_srt, ↓wp_glc, ↓wp_rgN, ↓wp_srtD, ↓wp_lc2, ↓wp_i3, ↓wp_iv, ↓mt_pp, ↓mt_ppA, ↓wp_esn, ↓wp_esc, ↓wp_pn, ↓wp_pa, ↓wp_tv, ↓wp_ta, ↓wp_to, ↓wp_tn, ↓wp_lo, ↓wp_ld, ↓wp_lc, ↓wp_tsn, ↓wp_tsc, ↓wp_io, ↓wp_i1, ↓wp_i2, ↓wp_iz, ↓wp_ie, ↓wo_some, ↓wo_none, ↓br_t, ↓br_f, ↓wps_ok, ↓wps_st, ↓wb_add, ↓wb_sub, ↓wb_mulR, ↓wb_mulL, ↓wb_div, ↓wb_mod, ↓wb_pow, ↓wb_addT, ↓wb_mulT, ↓wb_addL, ↓wb_mulLs, ↓wn_neg, ↓wc_eq, ↓wc_ne, ↓wc_lt, ↓wc_le, ↓wc_gt, ↓wc_ge, ↓wc_in, ↓wc_nin, ↓wc_isN, ↓wc_notN, ↓item_int, ↓sl_tup, ↓sl_ref, ↓bi_len, ↓bi_abs, ↓bi_int, ↓bi_intb, ↓bi_isI, ↓bi_max, ↓bi_min, ↓bi_divmod, ↓bi_lcm, ↓bi_gcd, ↓bl_sum, ↓bl_tuple, ↓bl_list, ↓bl_len, ↓bl_max, ↓bl_min, ↓mt_app, ↓mt_ext, ↓mt_ix, ↓setIt_ref, ↓ws_n, ↓ws_c, ↓ws_expr, ↓ws_asg, ↓ws_set, ↓ws_aug, ↓ws_augS, ↓ws_bad, ↓ws_if, ↓ws_for, ↓ws_whl, ↓ws_ret, ↓ws_retN, ↓ws_brk, ↓ws_cont, ↓ws_pass, ↓sq_n, ↓sq_b, ↓sq_c, ↓sq_r, ↓sq_z, ↓fin_ret, ↓fin_next, ↓fin_rz, ↓isTy_cv, ↓isTy_rt, ↓tr_cv, ↓tr_rt, look_z, look_s, rgW_rg, isNon_non, isNon_bl, isNon_int, isNon_str, isNon_tup, isNon_fl, isNon_ref, eqW_int, eqW_bl, tr_non, tr_bl, tr_int, tr_tup, ixN_in, ixN_neg, mtW_ref, seqOf_ref, seqOf_tup, seqOf_fl, seqOf_rt, seqOf_cv, isNon_rt, isNon_cv, isTup_rt, isTup_cv, guOf_rt, guOf_cv, isTy_rt, isTy_cv, cv_eq, rt_eq, asg_rt, asg_cv, asg_var, asg_tup2, asg_tup3, isTy, guOf, isTup, intW, aug_add, aug_sub, augO_a, augO_s, lstAt_z, lstAt_s, lstAt_al, lstAt_e, lstAt_ar, Nat.sub_self, Nat.add_sub_cancel_left, Nat.reduceSubDiff, List.append_assoc, lstAt_set, lstAt_ne, toInts_ints, toInts_nil, toInts_cons, toBls_nil, toBls_cons, Option.map_some, List.set_cons_succ, List.set_cons_zero, List.getElem?_cons_zero, List.getElem?_cons_succ, List.getElem_cons_zero, List.getElem_cons_succ, List.length_cons, List.length_nil, List.length_set, List.length_append, List.length_map, List.nil_append, List.cons_append, List.append_nil, List.set_set, Nat.reduceAdd, Nat.reduceLeDiff, Nat.reduceLT, Nat.reduceSub, true_and, and_true, Bool.not_true, Bool.not_false, decide_true, decide_false, Int.reduceToNat, Int.reducePow, Int.reduceNeg, Int.cast_ofNat_Int, decide_eq_true_eq, Nat.zero_add, Nat.add_zero, Int.toNat_natCast, Int.reduceLT, Int.reduceLE, Int.reduceBNe, Int.reduceEq, Int.natCast_add, Nat.le_refl, b_least_point_1]
    refine br_intro (fun hq => ?_) (fun hq => ?_)
    · try simp -implicitDefEqProofs -dsimp (disch := first | omega | (simp only [List.length_set, List.length_append, List.length_cons, List.length_nil, List.length_map]; omega)) only [↓wp_ok, ↓wp_err, ↓wp_exc, ↓wp_bind, ↓wp_var, ↓wp_cst, ↓wp_bin, ↓wp_neg, ↓wp_cmp, ↓wp_and, ↓wp_or, ↓wp_not, ↓wp_ite, ↓wp_tup, ↓wp_lst, ↓wp_idx, ↓wp_slc, ↓wp_call, ↓wp_bi, ↓wp_bl, ↓wp_mt, ↓wp_mk, ↓wp_lr1, ↓wp_lr2, ↓wp_aa, ↓wp_tr2, ↓wp_maxD, ↓wp_srt, ↓wp_glc, ↓wp_rgN, ↓wp_srtD, ↓wp_lc2, ↓wp_i3, ↓wp_iv, ↓mt_pp, ↓mt_ppA, ↓wp_esn, ↓wp_esc, ↓wp_pn, ↓wp_pa, ↓wp_tv, ↓wp_ta, ↓wp_to, ↓wp_tn, ↓wp_lo, ↓wp_ld, ↓wp_lc, ↓wp_tsn, ↓wp_tsc, ↓wp_io, ↓wp_i1, ↓wp_i2, ↓wp_iz, ↓wp_ie, ↓wo_some, ↓wo_none, ↓br_t, ↓br_f, ↓wps_ok, ↓wps_st, ↓wb_add, ↓wb_sub, ↓wb_mulR, ↓wb_mulL, ↓wb_div, ↓wb_mod, ↓wb_pow, ↓wb_addT, ↓wb_mulT, ↓wb_addL, ↓wb_mulLs, ↓wn_neg, ↓wc_eq, ↓wc_ne, ↓wc_lt, ↓wc_le, ↓wc_gt, ↓wc_ge, ↓wc_in, ↓wc_nin, ↓wc_isN, ↓wc_notN, ↓item_int, ↓sl_tup, ↓sl_ref, ↓bi_len, ↓bi_abs, ↓bi_int, ↓bi_intb, ↓bi_isI, ↓bi_max, ↓bi_min, ↓bi_divmod, ↓bi_lcm, ↓bi_gcd, ↓bl_sum, ↓bl_tuple, ↓bl_list, ↓bl_len, ↓bl_max, ↓bl_min, ↓mt_app, ↓mt_ext, ↓mt_ix, ↓setIt_ref, ↓ws_n, ↓ws_c, ↓ws_expr, ↓ws_asg, ↓ws_set, ↓ws_aug, ↓ws_augS, ↓ws_bad, ↓ws_if, ↓ws_for, ↓ws_whl, ↓ws_ret, ↓ws_retN, ↓ws_brk, ↓ws_cont, ↓ws_pass, ↓sq_n, ↓sq_b, ↓sq_c, ↓sq_r, ↓sq_z, ↓fin_ret, ↓fin_next, ↓fin_rz, ↓isTy_cv, ↓isTy_rt, ↓tr_cv, ↓tr_rt, look_z, look_s, rgW_rg, isNon_non, isNon_bl, isNon_int, isNon_str, isNon_tup, isNon_fl, isNon_ref, eqW_int, eqW_bl, tr_non, tr_bl, tr_int, tr_tup, ixN_in, ixN_neg, mtW_ref, seqOf_ref, seqOf_tup, seqOf_fl, seqOf_rt, seqOf_cv, isNon_rt, isNon_cv, isTup_rt, isTup_cv, guOf_rt, guOf_cv, isTy_rt, isTy_cv, cv_eq, rt_eq, asg_rt, asg_cv, asg_var, asg_tup2, asg_tup3, isTy, guOf, isTup, intW, aug_add, aug_sub, augO_a, augO_s, lstAt_z, lstAt_s, lstAt_al, lstAt_e, lstAt_ar, Nat.sub_self, Nat.add_sub_cancel_left, Nat.reduceSubDiff, List.append_assoc, lstAt_set, lstAt_ne, toInts_ints, toInts_nil, toInts_cons, toBls_nil, toBls_cons, Option.map_some, List.set_cons_succ, List.set_cons_zero, List.getElem?_cons_zero, List.getElem?_cons_succ, List.getElem_cons_zero, List.getElem_cons_succ, List.length_cons, List.length_nil, List.length_set, List.length_append, List.length_map, List.nil_append, List.cons_append, List.append_nil, List.set_set, Nat.reduceAdd, Nat.reduceLeDiff, Nat.reduceLT, Nat.reduceSub, true_and, and_true, Bool.not_true, Bool.not_false, decide_true, decide_false, Int.reduceToNat, Int.reducePow, Int.reduceNeg, Int.cast_ofNat_Int, decide_eq_true_eq, Nat.zero_add, Nat.add_zero, Int.toNat_natCast, Int.reduceLT, Int.reduceLE, Int.reduceBNe, Int.reduceEq, Int.natCast_add, Nat.le_refl]
      rw [tidy_one (Old.refl g) blw_int]
      refine ⟨rfl, pre.length + 1, by simp; omega, ?_⟩
      have f1 : psum (stp hd tn) pre.length = pre.sum := by rw [e]; exact psum_pre
      have f2 : psum (stp hd tn) (pre.length + 1) = pre.sum + a := by
        have := psum_pre (pre := pre ++ [a]) (suf := suf) (tn := tn)
        rw [e]; simpa using this
      exact Least.succ hu (by omega) (by omega)
    · try simp -implicitDefEqProofs -dsimp (disch := first | omega | (simp only [List.length_set, List.length_append, List.length_cons, List.length_nil, List.length_map]; omega)) only [↓wp_ok, ↓wp_err, ↓wp_exc, ↓wp_bind, ↓wp_var, ↓wp_cst, ↓wp_bin, ↓wp_neg, ↓wp_cmp, ↓wp_and, ↓wp_or, ↓wp_not, ↓wp_ite, ↓wp_tup, ↓wp_lst, ↓wp_idx, ↓wp_slc, ↓wp_call, ↓wp_bi, ↓wp_bl, ↓wp_mt, ↓wp_mk, ↓wp_lr1, ↓wp_lr2, ↓wp_aa, ↓wp_tr2, ↓wp_maxD, ↓wp_srt, ↓wp_glc, ↓wp_rgN, ↓wp_srtD, ↓wp_lc2, ↓wp_i3, ↓wp_iv, ↓mt_pp, ↓mt_ppA, ↓wp_esn, ↓wp_esc, ↓wp_pn, ↓wp_pa, ↓wp_tv, ↓wp_ta, ↓wp_to, ↓wp_tn, ↓wp_lo, ↓wp_ld, ↓wp_lc, ↓wp_tsn, ↓wp_tsc, ↓wp_io, ↓wp_i1, ↓wp_i2, ↓wp_iz, ↓wp_ie, ↓wo_some, ↓wo_none, ↓br_t, ↓br_f, ↓wps_ok, ↓wps_st, ↓wb_add, ↓wb_sub, ↓wb_mulR, ↓wb_mulL, ↓wb_div, ↓wb_mod, ↓wb_pow, ↓wb_addT, ↓wb_mulT, ↓wb_addL, ↓wb_mulLs, ↓wn_neg, ↓wc_eq, ↓wc_ne, ↓wc_lt, ↓wc_le, ↓wc_gt, ↓wc_ge, ↓wc_in, ↓wc_nin, ↓wc_isN, ↓wc_notN, ↓item_int, ↓sl_tup, ↓sl_ref, ↓bi_len, ↓bi_abs, ↓bi_int, ↓bi_intb, ↓bi_isI, ↓bi_max, ↓bi_min, ↓bi_divmod, ↓bi_lcm, ↓bi_gcd, ↓bl_sum, ↓bl_tuple, ↓bl_list, ↓bl_len, ↓bl_max, ↓bl_min, ↓mt_app, ↓mt_ext, ↓mt_ix, ↓setIt_ref, ↓ws_n, ↓ws_c, ↓ws_expr, ↓ws_asg, ↓ws_set, ↓ws_aug, ↓ws_augS, ↓ws_bad, ↓ws_if, ↓ws_for, ↓ws_whl, ↓ws_ret, ↓ws_retN, ↓ws_brk, ↓ws_cont, ↓ws_pass, ↓sq_n, ↓sq_b, ↓sq_c, ↓sq_r, ↓sq_z, ↓fin_ret, ↓fin_next, ↓fin_rz, ↓isTy_cv, ↓isTy_rt, ↓tr_cv, ↓tr_rt, look_z, look_s, rgW_rg, isNon_non, isNon_bl, isNon_int, isNon_str, isNon_tup, isNon_fl, isNon_ref, eqW_int, eqW_bl, tr_non, tr_bl, tr_int, tr_tup, ixN_in, ixN_neg, mtW_ref, seqOf_ref, seqOf_tup, seqOf_fl, seqOf_rt, seqOf_cv, isNon_rt, isNon_cv, isTup_rt, isTup_cv, guOf_rt, guOf_cv, isTy_rt, isTy_cv, cv_eq, rt_eq, asg_rt, asg_cv, asg_var, asg_tup2, asg_tup3, isTy, guOf, isTup, intW, aug_add, aug_sub, augO_a, augO_s, lstAt_z, lstAt_s, lstAt_al, lstAt_e, lstAt_ar, Nat.sub_self, Nat.add_sub_cancel_left, Nat.reduceSubDiff, List.append_assoc, lstAt_set, lstAt_ne, toInts_ints, toInts_nil, toInts_cons, toBls_nil, toBls_cons, Option.map_some, List.set_cons_succ, List.set_cons_zero, List.getElem?_cons_zero, List.getElem?_cons_succ, List.getElem_cons_zero, List.getElem_cons_succ, List.length_cons, List.length_nil, List.length_set, List.length_append, List.length_map, List.nil_append, List.cons_append, List.append_nil, List.set_set, Nat.reduceAdd, Nat.reduceLeDiff, Nat.reduceLT, Nat.reduceSub, true_and, and_true, Bool.not_true, Bool.not_false, decide_true, decide_false, Int.reduceToNat, Int.reducePow, Int.reduceNeg, Int.cast_ofNat_Int, decide_eq_true_eq, Nat.zero_add, Nat.add_zero, Int.toNat_natCast, Int.reduceLT, Int.reduceLE, Int.reduceBNe, Int.reduceEq, Int.natCast_add, Nat.le_refl]
      refine ⟨_, _, _, rfl, ?_, ?_, ?_⟩ <;> first | omega | (simp; omega)
  · rintro ρ g ⟨rfl, pt, lv, x3, rfl, e1, e2, e3⟩
    obtain ⟨q, eq, q1, q2⟩ := quo_bd hS.1 (show 0 ≤ x - lv - 1 by omega)
    try simp -implicitDefEqProofs -dsimp (disch := first | omega | (simp only [List.length_set, List.length_append, List.length_cons, List.length_nil, List.length_map]; omega)) only [↓wp_ok, ↓wp_err, ↓wp_exc, ↓wp_bind, ↓wp_var, ↓wp_cst, ↓wp_bin, ↓wp_neg, ↓wp_cmp, ↓wp_and, ↓wp_or, ↓wp_not, ↓wp_ite, ↓wp_tup, ↓wp_lst, ↓wp_idx, ↓wp_slc, ↓wp_call, ↓wp_bi, ↓wp_bl, ↓wp_mt, ↓wp_mk, ↓wp_lr1, ↓wp_lr2, ↓wp_aa, ↓wp_tr2, ↓wp_maxD, ↓wp_srt, ↓wp_glc, ↓wp_rgN, ↓wp_srtD, ↓wp_lc2, ↓wp_i3, ↓wp_iv, ↓mt_pp, ↓mt_ppA, ↓wp_esn, ↓wp_esc, ↓wp_pn, ↓wp_pa, ↓wp_tv, ↓wp_ta, ↓wp_to, ↓wp_tn, ↓wp_lo, ↓wp_ld, ↓wp_lc, ↓wp_tsn, ↓wp_tsc, ↓wp_io, ↓wp_i1, ↓wp_i2, ↓wp_iz, ↓wp_ie, ↓wo_some, ↓wo_none, ↓br_t, ↓br_f, ↓wps_ok, ↓wps_st, ↓wb_add, ↓wb_sub, ↓wb_mulR, ↓wb_mulL, ↓wb_div, ↓wb_mod, ↓wb_pow, ↓wb_addT, ↓wb_mulT, ↓wb_addL, ↓wb_mulLs, ↓wn_neg, ↓wc_eq, ↓wc_ne, ↓wc_lt, ↓wc_le, ↓wc_gt, ↓wc_ge, ↓wc_in, ↓wc_nin, ↓wc_isN, ↓wc_notN, ↓item_int, ↓sl_tup, ↓sl_ref, ↓bi_len, ↓bi_abs, ↓bi_int, ↓bi_intb, ↓bi_isI, ↓bi_max, ↓bi_min, ↓bi_divmod, ↓bi_lcm, ↓bi_gcd, ↓bl_sum, ↓bl_tuple, ↓bl_list, ↓bl_len, ↓bl_max, ↓bl_min, ↓mt_app, ↓mt_ext, ↓mt_ix, ↓setIt_ref, ↓ws_n, ↓ws_c, ↓ws_expr, ↓ws_asg, ↓ws_set, ↓ws_aug, ↓ws_augS, ↓ws_bad, ↓ws_if, ↓ws_for, ↓ws_whl, ↓ws_ret, ↓ws_retN, ↓ws_brk, ↓ws_cont, ↓ws_pass, ↓sq_n, ↓sq_b, ↓sq_c, ↓sq_r, ↓sq_z, ↓fin_ret, ↓fin_next, ↓fin_rz, ↓isTy_cv, ↓isTy_rt, ↓tr_cv, ↓tr_rt, look_z, look_s, rgW_rg, isNon_non, isNon_bl, isNon_int, isNon_str, isNon_tup, isNon_fl, isNon_ref, eqW_int, eqW_bl, tr_non, tr_bl, tr_int, tr_tup, ixN_in, ixN_neg, mtW_ref, seqOf_ref, seqOf_tup, seqOf_fl, seqOf_rt, seqOf_cv, isNon_rt, isNon_cv, isTup_rt, isTup_cv, guOf_rt, guOf_cv, isTy_rt, isTy_cv, cv_eq, rt_eq, asg_rt, asg_cv, asg_var, asg_tup2, asg_tup3, isTy, guOf, isTup, intW, aug_add, aug_sub, augO_a, augO_s, lstAt_z, lstAt_s, lstAt_al, lstAt_e, lstAt_ar, Nat.sub_self, Nat.add_sub_cancel_left, Nat.reduceSubDiff, List.append_assoc, lstAt_set, lstAt_ne, toInts_ints, toInts_nil, toInts_cons, toBls_nil, toBls_cons, Option.map_some, List.set_cons_succ, List.set_cons_zero, List.getElem?_cons_zero, List.getElem?_cons_succ, List.getElem_cons_zero, List.getElem_cons_succ, List.length_cons, List.length_nil, List.length_set, List.length_append, List.length_map, List.nil_append, List.cons_append, List.append_nil, List.set_set, Nat.reduceAdd, Nat.reduceLeDiff, Nat.reduceLT, Nat.reduceSub, true_and, and_true, Bool.not_true, Bool.not_false, decide_true, decide_false, Int.reduceToNat, Int.reducePow, Int.reduceNeg, Int.cast_ofNat_Int, decide_eq_true_eq, Nat.zero_add, Nat.add_zero, Int.toNat_natCast, Int.reduceLT, Int.reduceLE, Int.reduceBNe, Int.reduceEq, Int.natCast_add, Nat.le_refl, eq]
    refine wps_for W.int tn (fun pre ρ g' => g' = g ∧ ∃ (pt lv : Int) (x3 x4 : Option W), ρ = [some (cv i hd tn), some (.int x), some (.int pt), x3, x4, some (.int lv), some (.tup (hd.map W.int)), some (.tup (tn.map W.int))] ∧ pt = hd.length + (q * tn.length + pre.length) ∧ lv = i + hd.sum + q * tn.sum + pre.sum ∧ lv < x) (fun _ _ _ _ => guOk_nil) ?_ ?_ ?_
    rotate_left
    · refine ⟨rfl, _, _, _, _, rfl, ?_, ?_, ?_⟩ <;> first | omega | (simp; omega)
    rotate_left
    · rintro pre a suf ρ g' e ⟨rfl, pt', lv', x3, x4, rfl, e1', e2', e3'⟩
      try simp -implicitDefEqProofs -dsimp (disch := first | omega | (simp only [List.length_set, List.length_append, List.length_cons, List.length_nil, List.length_map]; omega)) only [↓wp_ok, ↓wp_err, ↓wp_exc, ↓wp_bind, ↓wp_var, ↓wp_cst, ↓wp_bin, ↓wp_neg, ↓wp_cmp, ↓wp_and, ↓wp_or, ↓wp_not, ↓wp_ite, ↓wp_tup, ↓wp_lst, ↓wp_idx, ↓wp_slc, ↓wp_call, ↓wp_bi, ↓wp_bl, ↓wp_mt, ↓wp_mk, ↓wp_lr1, ↓wp_lr2, ↓wp_aa, ↓wp_tr2, ↓wp_maxD, ↓wp_srt, ↓wp_glc, ↓wp_rgN, ↓wp_srtD, ↓wp_lc2, ↓wp_i3, ↓wp_iv, ↓mt_pp, ↓mt_ppA, ↓wp_esn, ↓wp_esc, ↓wp_pn, ↓wp_pa, ↓wp_tv, ↓wp_ta, ↓wp_to, ↓wp_tn, ↓wp_lo, ↓wp_ld, ↓wp_lc, ↓wp_tsn, ↓wp_tsc, ↓wp_io, ↓wp_i1, ↓wp_i2, ↓wp_iz, ↓wp_ie, ↓wo_some, ↓wo_none, ↓br_t, ↓br_f, ↓wps_ok, ↓wps_st, ↓wb_add, ↓wb_sub, ↓wb_mulR, ↓wb_mulL, ↓wb_div, ↓wb_mod, ↓wb_pow, ↓wb_addT, ↓wb_mulT, ↓wb_addL, ↓wb_mulLs, ↓wn_neg, ↓wc_eq, ↓wc_ne, ↓wc_lt, ↓wc_le, ↓wc_gt, ↓wc_ge, ↓wc_in, ↓wc_nin, ↓wc_isN, ↓wc_notN, ↓item_int, ↓sl_tup, ↓sl_ref, ↓bi_len, ↓bi_abs, ↓bi_int, ↓bi_intb, ↓bi_isI, ↓bi_max, ↓bi_min, ↓bi_divmod, ↓bi_lcm, ↓bi_gcd, ↓bl_sum, ↓bl_tuple, ↓bl_list, ↓bl_len, ↓bl_max, ↓bl_min, ↓mt_app, ↓mt_ext, ↓mt_ix, ↓setIt_ref, ↓ws_n, ↓ws_c, ↓ws_expr, ↓ws_asg, ↓ws_set, ↓ws_aug, ↓ws_augS, ↓ws_bad, ↓ws_if, ↓ws_for, ↓ws_whl, ↓ws_ret, ↓ws_retN, ↓ws_brk, ↓ws_cont, ↓ws_pass, ↓sq_n, ↓sq_b, ↓sq_c, ↓sq_r, ↓sq_z, ↓fin_ret, ↓fin_next, ↓fin_rz, ↓isTy_cv, ↓isTy_rt, ↓tr_cv, ↓tr_rt, look_z, look_s, rgW_rg, isNon_non, isNon_bl, isNon_int, isNon_str, isNon_tup, isNon_fl, isNon_ref, eqW_int, eqW_bl, tr_non, tr_bl, tr_int, tr_tup, ixN_in, ixN_neg, mtW_ref, seqOf_ref, seqOf_tup, seqOf_fl, seqOf_rt, seqOf_cv, isNon_rt, isNon_cv, isTup_rt, isTup_cv, guOf_rt, guOf_cv, isTy_rt, isTy_cv, cv_eq, rt_eq, asg_rt, asg_cv, asg_var, asg_tup2, asg_tup3, isTy, guOf, isTup, intW, aug_add, aug_sub, augO_a, augO_s, lstAt_z, lstAt_s, lstAt_al, lstAt_e, lstAt_ar, Nat.sub_self, Nat.add_sub_cancel_left, Nat.reduceSubDiff, List.append_assoc, lstAt_set, lstAt_ne, toInts_ints, toInts_nil, toInts_cons, toBls_nil, toBls_cons, Option.map_some, List.set_cons_succ, List.set_cons_zero, List.getElem?_cons_zero, List.getElem?_cons_succ, List.getElem_cons_zero, List.getElem_cons_succ, List.length_cons, List.length_nil, List.length_set, List.length_append, List.length_map, List.nil_append, List.cons_append, List.append_nil, List.set_set, Nat.reduceAdd, Nat.reduceLeDiff, Nat.reduceLT, Nat.reduceSub, true_and, and_true, Bool.not_true, Bool.not_false, decide_true, decide_false, Int.reduceToNat, Int.reducePow, Int.reduceNeg, Int.cast_ofNat_Int, decide_eq_true_eq, Nat.zero_add, Nat.add_zero, Int.toNat_natCast, Int.reduceLT, Int.reduceLE, Int.reduceBNe, Int.reduceEq, Int.natCast_add, Nat.le_refl, b_least_point_2]
      refine br_intro (fun hq => ?_) (fun hq => ?_)
      · try simp -implicitDefEqProofs -dsimp (disch := first | omega | (simp only [List.length_set, List.length_append, List.length_cons, List.length_nil, List.length_map]; omega)) only [↓wp_ok, ↓wp_err, ↓wp_exc, ↓wp_bind, ↓wp_var, ↓wp_cst, ↓wp_bin, ↓wp_neg, ↓wp_cmp, ↓wp_and, ↓wp_or, ↓wp_not, ↓wp_ite, ↓wp_tup, ↓wp_lst, ↓wp_idx, ↓wp_slc, ↓wp_call, ↓wp_bi, ↓wp_bl, ↓wp_mt, ↓wp_mk, ↓wp_lr1, ↓wp_lr2, ↓wp_aa, ↓wp_tr2, ↓wp_maxD, ↓wp_srt, ↓wp_glc, ↓wp_rgN, ↓wp_srtD, ↓wp_lc2, ↓wp_i3, ↓wp_iv, ↓mt_pp, ↓mt_ppA, ↓wp_esn, ↓wp_esc, ↓wp_pn, ↓wp_pa, ↓wp_tv, ↓wp_ta, ↓wp_to, ↓wp_tn, ↓wp_lo, ↓wp_ld, ↓wp_lc, ↓wp_tsn, ↓wp_tsc, ↓wp_io, ↓wp_i1, ↓wp_i2, ↓wp_iz, ↓wp_ie, ↓wo_some, ↓wo_none, ↓br_t, ↓br_f, ↓wps_ok, ↓wps_st, ↓wb_add, ↓wb_sub, ↓wb_mulR, ↓wb_mulL, ↓wb_div, ↓wb_mod, ↓wb_pow, ↓wb_addT, ↓wb_mulT, ↓wb_addL, ↓wb_mulLs, ↓wn_neg, ↓wc_eq, ↓wc_ne, ↓wc_lt, ↓wc_le, ↓wc_gt, ↓wc_ge, ↓wc_in, ↓wc_nin, ↓wc_isN, ↓wc_notN, ↓item_int, ↓sl_tup, ↓sl_ref, ↓bi_len, ↓bi_abs, ↓bi_int, ↓bi_intb, ↓bi_isI, ↓bi_max, ↓bi_min, ↓bi_divmod, ↓bi_lcm, ↓bi_gcd, ↓bl_sum, ↓bl_tuple, ↓bl_list, ↓bl_len, ↓bl_max, ↓bl_min, ↓mt_app, ↓mt_ext, ↓mt_ix, ↓setIt_ref, ↓ws_n, ↓ws_c, ↓ws_expr, ↓ws_asg, ↓ws_set, ↓ws_aug, ↓ws_augS, ↓ws_bad, ↓ws_if, ↓ws_for, ↓ws_whl, ↓ws_ret, ↓ws_retN, ↓ws_brk, ↓ws_cont, ↓ws_pass, ↓sq_n, ↓sq_b, ↓sq_c, ↓sq_r, ↓sq_z, ↓fin_ret, ↓fin_next, ↓fin_rz, ↓isTy_cv, ↓isTy_rt, ↓tr_cv, ↓tr_rt, look_z, look_s, rgW_rg, isNon_non, isNon_bl, isNon_int, isNon_str, isNon_tup, isNon_fl, isNon_ref, eqW_int, eqW_bl, tr_non, tr_bl, tr_int, tr_tup, ixN_in, ixN_neg, mtW_ref, seqOf_ref, seqOf_tup, seqOf_fl, seqOf_rt, seqOf_cv, isNon_rt, isNon_cv, isTup_rt, isTup_cv, guOf_rt, guOf_cv, isTy_rt, isTy_cv, cv_eq, rt_eq, asg_rt, asg_cv, asg_var, asg_tup2, asg_tup3, isTy, guOf, isTup, intW, aug_add, aug_sub, augO_a, augO_s, lstAt_z, lstAt_s, lstAt_al, lstAt_e, lstAt_ar, Nat.sub_self, Nat.add_sub_cancel_left, Nat.reduceSubDiff, List.append_assoc, lstAt_set, lstAt_ne, toInts_ints, toInts_nil, toInts_cons, toBls_nil, toBls_cons, Option.map_some, List.set_cons_succ, List.set_cons_zero, List.getElem?_cons_zero, List.getElem?_cons_succ, List.getElem_cons_zero, List.getElem_cons_succ, List.length_cons, List.length_nil, List.length_set, List.length_append, List.length_map, List.nil_append, List.cons_append, List.append_nil, List.set_set, Nat.reduceAdd, Nat.reduceLeDiff, Nat.reduceLT, Nat.reduceSub, true_and, and_true, Bool.not_true, Bool.not_false, decide_true, decide_false, Int.reduceToNat, Int.reducePow, Int.reduceNeg, Int.cast_ofNat_Int, decide_eq_true_eq, Nat.zero_add, Nat.add_zero, Int.toNat_natCast, Int.reduceLT, Int.reduceLE, Int.reduceBNe, Int.reduceEq, Int.natCast_add, Nat.le_refl]
        rw [tidy_one (Old.refl g') blw_int]
        refine ⟨rfl, hd.length + (q * tn.length + pre.length) + 1, ?_, ?_⟩
        · simp; omega
        have f1 : psum (stp hd tn) (hd.length + (q * tn.length + pre.length)) = hd.sum + q * tn.sum + pre.sum := by rw [e]; exact psum_mid
        have f2 : psum (stp hd tn) (hd.length + (q * tn.length + pre.length) + 1) = hd.sum + q * tn.sum + (pre.sum + a) := by
          have := psum_mid (hd := hd) (pre := pre ++ [a]) (suf := suf) (q := q)
          rw [e]
          simpa [Nat.add_assoc] using this
        exact Least.succ hu (by omega) (by omega)
      · try simp -implicitDefEqProofs -dsimp (disch := first | omega | (simp only [List.length_set, List.length_append, List.length_cons, List.length_nil, List.length_map]; omega)) only [↓wp_ok, ↓wp_err, ↓wp_exc, ↓wp_bind, ↓wp_var, ↓wp_cst, ↓wp_bin, ↓wp_neg, ↓wp_cmp, ↓wp_and, ↓wp_or, ↓wp_not, ↓wp_ite, ↓wp_tup, ↓wp_lst, ↓wp_idx, ↓wp_slc, ↓wp_call, ↓wp_bi, ↓wp_bl, ↓wp_mt, ↓wp_mk, ↓wp_lr1, ↓wp_lr2, ↓wp_aa, ↓wp_tr2, ↓wp_maxD, ↓wp_srt, ↓wp_glc, ↓wp_rgN, ↓wp_srtD, ↓wp_lc2, ↓wp_i3, ↓wp_iv, ↓mt_pp, ↓mt_ppA, ↓wp_esn, ↓wp_esc, ↓wp_pn, ↓wp_pa, ↓wp_tv, ↓wp_ta, ↓wp_to, ↓wp_tn, ↓wp_lo, ↓wp_ld, ↓wp_lc, ↓wp_tsn, ↓wp_tsc, ↓wp_io, ↓wp_i1, ↓wp_i2, ↓wp_iz, ↓wp_ie, ↓wo_some, ↓wo_none, ↓br_t, ↓br_f, ↓wps_ok, ↓wps_st, ↓wb_add, ↓wb_sub, ↓wb_mulR, ↓wb_mulL, ↓wb_div, ↓wb_mod, ↓wb_pow, ↓wb_addT, ↓wb_mulT, ↓wb_addL, ↓wb_mulLs, ↓wn_neg, ↓wc_eq, ↓wc_ne, ↓wc_lt, ↓wc_le, ↓wc_gt, ↓wc_ge, ↓wc_in, ↓wc_nin, ↓wc_isN, ↓wc_notN, ↓item_int, ↓sl_tup, ↓sl_ref, ↓bi_len, ↓bi_abs, ↓bi_int, ↓bi_intb, ↓bi_isI, ↓bi_max, ↓bi_min, ↓bi_divmod, ↓bi_lcm, ↓bi_gcd, ↓bl_sum, ↓bl_tuple, ↓bl_list, ↓bl_len, ↓bl_max, ↓bl_min, ↓mt_app, ↓mt_ext, ↓mt_ix, ↓setIt_ref, ↓ws_n, ↓ws_c, ↓ws_expr, ↓ws_asg, ↓ws_set, ↓ws_aug, ↓ws_augS, ↓ws_bad, ↓ws_if, ↓ws_for, ↓ws_whl, ↓ws_ret, ↓ws_retN, ↓ws_brk, ↓ws_cont, ↓ws_pass, ↓sq_n, ↓sq_b, ↓sq_c, ↓sq_r, ↓sq_z, ↓fin_ret, ↓fin_next, ↓fin_rz, ↓isTy_cv, ↓isTy_rt, ↓tr_cv, ↓tr_rt, look_z, look_s, rgW_rg, isNon_non, isNon_bl, isNon_int, isNon_str, isNon_tup, isNon_fl, isNon_ref, eqW_int, eqW_bl, tr_non, tr_bl, tr_int, tr_tup, ixN_in, ixN_neg, mtW_ref, seqOf_ref, seqOf_tup, seqOf_fl, seqOf_rt, seqOf_cv, isNon_rt, isNon_cv, isTup_rt, isTup_cv, guOf_rt, guOf_cv, isTy_rt, isTy_cv, cv_eq, rt_eq, asg_rt, asg_cv, asg_var, asg_tup2, asg_tup3, isTy, guOf, isTup, intW, aug_add, aug_sub, augO_a, augO_s, lstAt_z, lstAt_s, lstAt_al, lstAt_e, lstAt_ar, Nat.sub_self, Nat.add_sub_cancel_left, Nat.reduceSubDiff, List.append_assoc, lstAt_set, lstAt_ne, toInts_ints, toInts_nil, toInts_cons, toBls_nil, toBls_cons, Option.map_some, List.set_cons_succ, List.set_cons_zero, List.getElem?_cons_zero, List.getElem?_cons_succ, List.getElem_cons_zero, List.getElem_cons_succ, List.length_cons, List.length_nil, List.length_set, List.length_append, List.length_map, List.nil_append, List.cons_append, List.append_nil, List.set_set, Nat.reduceAdd, Nat.reduceLeDiff, Nat.reduceLT, Nat.reduceSub, true_and, and_true, Bool.not_true, Bool.not_false, decide_true, decide_false, Int.reduceToNat, Int.reducePow, Int.reduceNeg, Int.cast_ofNat_Int, decide_eq_true_eq, Nat.zero_add, Nat.add_zero, Int.toNat_natCast, Int.reduceLT, Int.reduceLE, Int.reduceBNe, Int.reduceEq, Int.natCast_add, Nat.le_refl]
        refine ⟨_, _, _, _, rfl, ?_, ?_, ?_⟩ <;> first | omega | (simp; omega)
    · rintro ρ g' ⟨rfl, pt', lv', x3, x4, rfl, e1', e2', e3'⟩
      exfalso
      omega
end Law

namespace Law
open PySem Ev
/-- a calendar -/
structure Cal (hd tn : List Int) : Prop where
  l : hd.length ≤ 4 ∧ 0 < tn.length ∧ tn.length ≤ 4
  x : (∀ x ∈ hd, 0 ≤ x ∧ x ≤ 1) ∧ ∀ x ∈ tn, 0 ≤ x ∧ x ≤ 1
  s : 0 < tn.sum
theorem Cal.u {hd tn : List Int} (C : Cal hd tn) : ∀ k, 0 ≤ stp hd tn k ∧ stp hd tn k ≤ 1 := stp_all (P := fun x => 0 ≤ x ∧ x ≤ 1) C.l.2.1 C.x.1 C.x.2
theorem Cal.hu {hd tn : List Int} (C : Cal hd tn) : ∀ k, 0 ≤ stp hd tn k := fun k => (C.u k).1
theorem Cal.hS {hd tn : List Int} (C : Cal hd tn) : 0 < tn.sum ∧ tn.sum < 1000000000 := by
  have := sum_bd 1 tn C.x.2
  have := C.l
  exact ⟨C.s, by omega⟩
/-- work of k open hours from b on finishes at n -/
def Wk (hd tn : List Int) (b k n : Nat) : Prop := (k = 0 ∧ n = b) ∨ (0 < k ∧ Least 0 (stp hd tn) (psum (stp hd tn) b + k) n)
theorem Wk.unique {hd tn : List Int} {b k n m : Nat} (x : Wk hd tn b k n) (y : Wk hd tn b k m) : n = m := by
  rcases x with ⟨a, rfl⟩ | ⟨a, x⟩ <;> rcases y with ⟨c, rfl⟩ | ⟨c, y⟩
  · rfl
  · omega
  · omega
  · exact x.unique y
theorem Wk.at {hd tn : List Int} {b k n : Nat} (C : Cal hd tn) (x : Wk hd tn b k n) : psum (stp hd tn) n = psum (stp hd tn) b + k := by
  rcases x with ⟨rfl, rfl⟩ | ⟨a, x⟩
  · simp
  · cases n with
    | zero =>
      have := x.ge
      have := psum_nn C.hu b
      simp [psum] at *
      omega
    | succ n =>
      have := x.ge
      have := x.lt n (by omega)
      have e : psum (stp hd tn) (n + 1) = psum (stp hd tn) n + stp hd tn n := rfl
      have := C.u n
      omega
theorem Wk.comp {hd tn : List Int} {b k j n m : Nat} (C : Cal hd tn) (x : Wk hd tn b k n) (y : Wk hd tn n j m) : Wk hd tn b (k + j) m := by
  have e := x.at C
  rcases y with ⟨rfl, rfl⟩ | ⟨a, y⟩
  · exact x
  · refine .inr ⟨by omega, ?_⟩
    rw [e] at y
    have : psum (stp hd tn) b + ((k + j : Nat) : Int) = psum (stp hd tn) b + k + j := by omega
    rw [this]; exact y
theorem wk_ex {hd tn : List Int} (C : Cal hd tn) (b k : Nat) : ∃ n, Wk hd tn b k n := by
  by_cases c : k = 0
  · exact ⟨b, .inl ⟨c, rfl⟩⟩
  · obtain ⟨n, Ln, _⟩ := least_ok (k := 0) (h := []) (i := 0) (x := psum (stp hd tn) b + k) C.hu C.hS (by have := C.l; omega)
    exact ⟨n, .inr ⟨by omega, Ln⟩⟩
theorem finish_ok {k : Nat} {h : Hw} {hd tn : List Int} {b j n : Nat} (C : Cal hd tn) (w : Wk hd tn b j n) : PhiN ds (k + 2) 3 [cv 0 hd tn, .int b, .int j] h = .ok (.int n) h := by
  have l := C.l
  have hS := C.hS
  generalize w1 : W.int (b : Int) = wb
  generalize w2 : W.int (j : Int) = wj
  refine wp_run (go_finish ?_)
  subst w1
  subst w2
  unfold s_finish
  try simp -implicitDefEqProofs -dsimp (disch := first | omega | (simp only [List.length_set, List.length_append, List.length_cons, List.length_nil, List.length_map]; omega)) only [↓wp_ok, ↓wp_err, ↓wp_exc, ↓wp_bind, ↓wp_var, ↓wp_cst, ↓wp_bin, ↓wp_neg, ↓wp_cmp, ↓wp_and, ↓wp_or, ↓wp_not, ↓wp_ite, ↓wp_tup, ↓wp_lst, ↓wp_idx, ↓wp_slc, ↓wp_call, ↓wp_bi, ↓wp_bl, ↓wp_mt, ↓wp_mk, ↓wp_lr1, ↓wp_lr2, ↓wp_aa, ↓wp_tr2, ↓wp_maxD, ↓wp_srt, ↓wp_glc, ↓wp_rgN, ↓wp_srtD, ↓wp_lc2, ↓wp_i3, ↓wp_iv, ↓mt_pp, ↓mt_ppA, ↓wp_esn, ↓wp_esc, ↓wp_pn, ↓wp_pa, ↓wp_tv, ↓wp_ta, ↓wp_to, ↓wp_tn, ↓wp_lo, ↓wp_ld, ↓wp_lc, ↓wp_tsn, ↓wp_tsc, ↓wp_io, ↓wp_i1, ↓wp_i2, ↓wp_iz, ↓wp_ie, ↓wo_some, ↓wo_none, ↓br_t, ↓br_f, ↓wps_ok, ↓wps_st, ↓wb_add, ↓wb_sub, ↓wb_mulR, ↓wb_mulL, ↓wb_div, ↓wb_mod, ↓wb_pow, ↓wb_addT, ↓wb_mulT, ↓wb_addL, ↓wb_mulLs, ↓wn_neg, ↓wc_eq, ↓wc_ne, ↓wc_lt, ↓wc_le, ↓wc_gt, ↓wc_ge, ↓wc_in, ↓wc_nin, ↓wc_isN, ↓wc_notN, ↓item_int, ↓sl_tup, ↓sl_ref, ↓bi_len, ↓bi_abs, ↓bi_int, ↓bi_intb, ↓bi_isI, ↓bi_max, ↓bi_min, ↓bi_divmod, ↓bi_lcm, ↓bi_gcd, ↓bl_sum, ↓bl_tuple, ↓bl_list, ↓bl_len, ↓bl_max, ↓bl_min, ↓mt_app, ↓mt_ext, ↓mt_ix, ↓setIt_ref, ↓ws_n, ↓ws_c, ↓ws_expr, ↓ws_asg, ↓ws_set, ↓ws_aug, ↓ws_augS, ↓ws_bad, ↓ws_if, ↓ws_for, ↓ws_whl, ↓ws_ret, ↓ws_retN, ↓ws_brk, ↓ws_cont, ↓ws_pass, ↓sq_n, ↓sq_b, ↓sq_c, ↓sq_r, ↓sq_z, ↓fin_ret, ↓fin_next, ↓fin_rz, ↓isTy_cv, ↓isTy_rt, ↓tr_cv, ↓tr_rt, look_z, look_s, rgW_rg, isNon_non, isNon_bl, isNon_int, isNon_str, isNon_tup, isNon_fl, isNon_ref, eqW_int, eqW_bl, tr_non, tr_bl, tr_int, tr_tup, ixN_in, ixN_neg, mtW_ref, seqOf_ref, seqOf_tup, seqOf_fl, seqOf_rt, seqOf_cv, isNon_rt, isNon_cv, isTup_rt, isTup_cv, guOf_rt, guOf_cv, isTy_rt, isTy_cv, cv_eq, rt_eq, asg_rt, asg_cv, asg_var, asg_tup2, asg_tup3, isTy, guOf, isTup, intW, aug_add, aug_sub, augO_a, augO_s, lstAt_z, lstAt_s, lstAt_al, lstAt_e, lstAt_ar, Nat.sub_self, Nat.add_sub_cancel_left, Nat.reduceSubDiff, List.append_assoc, lstAt_set, lstAt_ne, toInts_ints, toInts_nil, toInts_cons, toBls_nil, toBls_cons, Option.map_some, List.set_cons_succ, List.set_cons_zero, List.getElem?_cons_zero, List.getElem?_cons_succ, List.getElem_cons_zero, List.getElem_cons_succ, List.length_cons, List.length_nil, List.length_set, List.length_append, List.length_map, List.nil_append, List.cons_append, List.append_nil, List.set_set, Nat.reduceAdd, Nat.reduceLeDiff, Nat.reduceLT, Nat.reduceSub, true_and, and_true, Bool.not_true, Bool.not_false, decide_true, decide_false, Int.reduceToNat, Int.reducePow, Int.reduceNeg, Int.cast_ofNat_Int, decide_eq_true_eq, Nat.zero_add, Nat.add_zero, Int.toNat_natCast, Int.reduceLT, Int.reduceLE, Int.reduceBNe, Int.reduceEq, Int.natCast_add, Nat.le_refl]
  rcases w with ⟨rfl, rfl⟩ | ⟨a, w⟩
  · try simp -implicitDefEqProofs -dsimp (disch := first | omega | (simp only [List.length_set, List.length_append, List.length_cons, List.length_nil, List.length_map]; omega)) only [↓wp_ok, ↓wp_err, ↓wp_exc, ↓wp_bind, ↓wp_var, ↓wp_cst, ↓wp_bin, ↓wp_neg, ↓wp_cmp, ↓wp_and, ↓wp_or, ↓wp_not, ↓wp_ite, ↓wp_tup, ↓wp_lst, ↓wp_idx, ↓wp_slc, ↓wp_call, ↓wp_bi, ↓wp_bl, ↓wp_mt, ↓wp_mk, ↓wp_lr1, ↓wp_lr2, ↓wp_aa, ↓wp_tr2, ↓wp_maxD, ↓wp_srt, ↓wp_glc, ↓wp_rgN, ↓wp_srtD, ↓wp_lc2, ↓wp_i3, ↓wp_iv, ↓mt_pp, ↓mt_ppA, ↓wp_esn, ↓wp_esc, ↓wp_pn, ↓wp_pa, ↓wp_tv, ↓wp_ta, ↓wp_to, ↓wp_tn, ↓wp_lo, ↓wp_ld, ↓wp_lc, ↓wp_tsn, ↓wp_tsc, ↓wp_io, ↓wp_i1, ↓wp_i2, ↓wp_iz, ↓wp_ie, ↓wo_some, ↓wo_none, ↓br_t, ↓br_f, ↓wps_ok, ↓wps_st, ↓wb_add, ↓wb_sub, ↓wb_mulR, ↓wb_mulL, ↓wb_div, ↓wb_mod, ↓wb_pow, ↓wb_addT, ↓wb_mulT, ↓wb_addL, ↓wb_mulLs, ↓wn_neg, ↓wc_eq, ↓wc_ne, ↓wc_lt, ↓wc_le, ↓wc_gt, ↓wc_ge, ↓wc_in, ↓wc_nin, ↓wc_isN, ↓wc_notN, ↓item_int, ↓sl_tup, ↓sl_ref, ↓bi_len, ↓bi_abs, ↓bi_int, ↓bi_intb, ↓bi_isI, ↓bi_max, ↓bi_min, ↓bi_divmod, ↓bi_lcm, ↓bi_gcd, ↓bl_sum, ↓bl_tuple, ↓bl_list, ↓bl_len, ↓bl_max, ↓bl_min, ↓mt_app, ↓mt_ext, ↓mt_ix, ↓setIt_ref, ↓ws_n, ↓ws_c, ↓ws_expr, ↓ws_asg, ↓ws_set, ↓ws_aug, ↓ws_augS, ↓ws_bad, ↓ws_if, ↓ws_for, ↓ws_whl, ↓ws_ret, ↓ws_retN, ↓ws_brk, ↓ws_cont, ↓ws_pass, ↓sq_n, ↓sq_b, ↓sq_c, ↓sq_r, ↓sq_z, ↓fin_ret, ↓fin_next, ↓fin_rz, ↓isTy_cv, ↓isTy_rt, ↓tr_cv, ↓tr_rt, look_z, look_s, rgW_rg, isNon_non, isNon_bl, isNon_int, isNon_str, isNon_tup, isNon_fl, isNon_ref, eqW_int, eqW_bl, tr_non, tr_bl, tr_int, tr_tup, ixN_in, ixN_neg, mtW_ref, seqOf_ref, seqOf_tup, seqOf_fl, seqOf_rt, seqOf_cv, isNon_rt, isNon_cv, isTup_rt, isTup_cv, guOf_rt, guOf_cv, isTy_rt, isTy_cv, cv_eq, rt_eq, asg_rt, asg_cv, asg_var, asg_tup2, asg_tup3, isTy, guOf, isTup, intW, aug_add, aug_sub, augO_a, augO_s, lstAt_z, lstAt_s, lstAt_al, lstAt_e, lstAt_ar, Nat.sub_self, Nat.add_sub_cancel_left, Nat.reduceSubDiff, List.append_assoc, lstAt_set, lstAt_ne, toInts_ints, toInts_nil, toInts_cons, toBls_nil, toBls_cons, Option.map_some, List.set_cons_succ, List.set_cons_zero, List.getElem?_cons_zero, List.getElem?_cons_succ, List.getElem_cons_zero, List.getElem_cons_succ, List.length_cons, List.length_nil, List.length_set, List.length_append, List.length_map, List.nil_append, List.cons_append, List.append_nil, List.set_set, Nat.reduceAdd, Nat.reduceLeDiff, Nat.reduceLT, Nat.reduceSub, true_and, and_true, Bool.not_true, Bool.not_false, decide_true, decide_false, Int.reduceToNat, Int.reducePow, Int.reduceNeg, Int.cast_ofNat_Int, decide_eq_true_eq, Nat.zero_add, Nat.add_zero, Int.toNat_natCast, Int.reduceLT, Int.reduceLE, Int.reduceBNe, Int.reduceEq, Int.natCast_add, Nat.le_refl, Int.natCast_zero]
    rw [tidy_one (Old.refl h) blw_int]
    exact ⟨rfl, rfl⟩
  · have e0 : decide ((j : Int) = 0) = false := decide_eq_false (by omega)
    obtain ⟨m, M, e⟩ := least_ok (k := k) (h := h) (i := 0) (x := psum (stp hd tn) b + j) C.hu hS (by omega)
    obtain rfl := w.unique M
    try simp -implicitDefEqProofs -dsimp (disch := first | omega | (simp only [List.length_set, List.length_append, List.length_cons, List.length_nil, List.length_map]; omega)) only [↓wp_ok, ↓wp_err, ↓wp_exc, ↓wp_bind, ↓wp_var, ↓wp_cst, ↓wp_bin, ↓wp_neg, ↓wp_cmp, ↓wp_and, ↓wp_or, ↓wp_not, ↓wp_ite, ↓wp_tup, ↓wp_lst, ↓wp_idx, ↓wp_slc, ↓wp_call, ↓wp_bi, ↓wp_bl, ↓wp_mt, ↓wp_mk, ↓wp_lr1, ↓wp_lr2, ↓wp_aa, ↓wp_tr2, ↓wp_maxD, ↓wp_srt, ↓wp_glc, ↓wp_rgN, ↓wp_srtD, ↓wp_lc2, ↓wp_i3, ↓wp_iv, ↓mt_pp, ↓mt_ppA, ↓wp_esn, ↓wp_esc, ↓wp_pn, ↓wp_pa, ↓wp_tv, ↓wp_ta, ↓wp_to, ↓wp_tn, ↓wp_lo, ↓wp_ld, ↓wp_lc, ↓wp_tsn, ↓wp_tsc, ↓wp_io, ↓wp_i1, ↓wp_i2, ↓wp_iz, ↓wp_ie, ↓wo_some, ↓wo_none, ↓br_t, ↓br_f, ↓wps_ok, ↓wps_st, ↓wb_add, ↓wb_sub, ↓wb_mulR, ↓wb_mulL, ↓wb_div, ↓wb_mod, ↓wb_pow, ↓wb_addT, ↓wb_mulT, ↓wb_addL, ↓wb_mulLs, ↓wn_neg, ↓wc_eq, ↓wc_ne, ↓wc_lt, ↓wc_le, ↓wc_gt, ↓wc_ge, ↓wc_in, ↓wc_nin, ↓wc_isN, ↓wc_notN, ↓item_int, ↓sl_tup, ↓sl_ref, ↓bi_len, ↓bi_abs, ↓bi_int, ↓bi_intb, ↓bi_isI, ↓bi_max, ↓bi_min, ↓bi_divmod, ↓bi_lcm, ↓bi_gcd, ↓bl_sum, ↓bl_tuple, ↓bl_list, ↓bl_len, ↓bl_max, ↓bl_min, ↓mt_app, ↓mt_ext, ↓mt_ix, ↓setIt_ref, ↓ws_n, ↓ws_c, ↓ws_expr, ↓ws_asg, ↓ws_set, ↓ws_aug, ↓ws_augS, ↓ws_bad, ↓ws_if, ↓ws_for, ↓ws_whl, ↓ws_ret, ↓ws_retN, ↓ws_brk, ↓ws_cont, ↓ws_pass, ↓sq_n, ↓sq_b, ↓sq_c, ↓sq_r, ↓sq_z, ↓fin_ret, ↓fin_next, ↓fin_rz, ↓isTy_cv, ↓isTy_rt, ↓tr_cv, ↓tr_rt, look_z, look_s, rgW_rg, isNon_non, isNon_bl, isNon_int, isNon_str, isNon_tup, isNon_fl, isNon_ref, eqW_int, eqW_bl, tr_non, tr_bl, tr_int, tr_tup, ixN_in, ixN_neg, mtW_ref, seqOf_ref, seqOf_tup, seqOf_fl, seqOf_rt, seqOf_cv, isNon_rt, isNon_cv, isTup_rt, isTup_cv, guOf_rt, guOf_cv, isTy_rt, isTy_cv, cv_eq, rt_eq, asg_rt, asg_cv, asg_var, asg_tup2, asg_tup3, isTy, guOf, isTup, intW, aug_add, aug_sub, augO_a, augO_s, lstAt_z, lstAt_s, lstAt_al, lstAt_e, lstAt_ar, Nat.sub_self, Nat.add_sub_cancel_left, Nat.reduceSubDiff, List.append_assoc, lstAt_set, lstAt_ne, toInts_ints, toInts_nil, toInts_cons, toBls_nil, toBls_cons, Option.map_some, List.set_cons_succ, List.set_cons_zero, List.getElem?_cons_zero, List.getElem?_cons_succ, List.getElem_cons_zero, List.getElem_cons_succ, List.length_cons, List.length_nil, List.length_set, List.length_append, List.length_map, List.nil_append, List.cons_append, List.append_nil, List.set_set, Nat.reduceAdd, Nat.reduceLeDiff, Nat.reduceLT, Nat.reduceSub, true_and, and_true, Bool.not_true, Bool.not_false, decide_true, decide_false, Int.reduceToNat, Int.reducePow, Int.reduceNeg, Int.cast_ofNat_Int, decide_eq_true_eq, Nat.zero_add, Nat.add_zero, Int.toNat_natCast, Int.reduceLT, Int.reduceLE, Int.reduceBNe, Int.reduceEq, Int.natCast_add, Nat.le_refl, e0]
    rw [val_at_nat (by omega) (by omega), wp_ok]
    try simp -implicitDefEqProofs -dsimp (disch := first | omega | (simp only [List.length_set, List.length_append, List.length_cons, List.length_nil, List.length_map]; omega)) only [↓wp_ok, ↓wp_err, ↓wp_exc, ↓wp_bind, ↓wp_var, ↓wp_cst, ↓wp_bin, ↓wp_neg, ↓wp_cmp, ↓wp_and, ↓wp_or, ↓wp_not, ↓wp_ite, ↓wp_tup, ↓wp_lst, ↓wp_idx, ↓wp_slc, ↓wp_call, ↓wp_bi, ↓wp_bl, ↓wp_mt, ↓wp_mk, ↓wp_lr1, ↓wp_lr2, ↓wp_aa, ↓wp_tr2, ↓wp_maxD, ↓wp_srt, ↓wp_glc, ↓wp_rgN, ↓wp_srtD, ↓wp_lc2, ↓wp_i3, ↓wp_iv, ↓mt_pp, ↓mt_ppA, ↓wp_esn, ↓wp_esc, ↓wp_pn, ↓wp_pa, ↓wp_tv, ↓wp_ta, ↓wp_to, ↓wp_tn, ↓wp_lo, ↓wp_ld, ↓wp_lc, ↓wp_tsn, ↓wp_tsc, ↓wp_io, ↓wp_i1, ↓wp_i2, ↓wp_iz, ↓wp_ie, ↓wo_some, ↓wo_none, ↓br_t, ↓br_f, ↓wps_ok, ↓wps_st, ↓wb_add, ↓wb_sub, ↓wb_mulR, ↓wb_mulL, ↓wb_div, ↓wb_mod, ↓wb_pow, ↓wb_addT, ↓wb_mulT, ↓wb_addL, ↓wb_mulLs, ↓wn_neg, ↓wc_eq, ↓wc_ne, ↓wc_lt, ↓wc_le, ↓wc_gt, ↓wc_ge, ↓wc_in, ↓wc_nin, ↓wc_isN, ↓wc_notN, ↓item_int, ↓sl_tup, ↓sl_ref, ↓bi_len, ↓bi_abs, ↓bi_int, ↓bi_intb, ↓bi_isI, ↓bi_max, ↓bi_min, ↓bi_divmod, ↓bi_lcm, ↓bi_gcd, ↓bl_sum, ↓bl_tuple, ↓bl_list, ↓bl_len, ↓bl_max, ↓bl_min, ↓mt_app, ↓mt_ext, ↓mt_ix, ↓setIt_ref, ↓ws_n, ↓ws_c, ↓ws_expr, ↓ws_asg, ↓ws_set, ↓ws_aug, ↓ws_augS, ↓ws_bad, ↓ws_if, ↓ws_for, ↓ws_whl, ↓ws_ret, ↓ws_retN, ↓ws_brk, ↓ws_cont, ↓ws_pass, ↓sq_n, ↓sq_b, ↓sq_c, ↓sq_r, ↓sq_z, ↓fin_ret, ↓fin_next, ↓fin_rz, ↓isTy_cv, ↓isTy_rt, ↓tr_cv, ↓tr_rt, look_z, look_s, rgW_rg, isNon_non, isNon_bl, isNon_int, isNon_str, isNon_tup, isNon_fl, isNon_ref, eqW_int, eqW_bl, tr_non, tr_bl, tr_int, tr_tup, ixN_in, ixN_neg, mtW_ref, seqOf_ref, seqOf_tup, seqOf_fl, seqOf_rt, seqOf_cv, isNon_rt, isNon_cv, isTup_rt, isTup_cv, guOf_rt, guOf_cv, isTy_rt, isTy_cv, cv_eq, rt_eq, asg_rt, asg_cv, asg_var, asg_tup2, asg_tup3, isTy, guOf, isTup, intW, aug_add, aug_sub, augO_a, augO_s, lstAt_z, lstAt_s, lstAt_al, lstAt_e, lstAt_ar, Nat.sub_self, Nat.add_sub_cancel_left, Nat.reduceSubDiff, List.append_assoc, lstAt_set, lstAt_ne, toInts_ints, toInts_nil, toInts_cons, toBls_nil, toBls_cons, Option.map_some, List.set_cons_succ, List.set_cons_zero, List.getElem?_cons_zero, List.getElem?_cons_succ, List.getElem_cons_zero, List.getElem_cons_succ, List.length_cons, List.length_nil, List.length_set, List.length_append, List.length_map, List.nil_append, List.cons_append, List.append_nil, List.set_set, Nat.reduceAdd, Nat.reduceLeDiff, Nat.reduceLT, Nat.reduceSub, true_and, and_true, Bool.not_true, Bool.not_false, decide_true, decide_false, Int.reduceToNat, Int.reducePow, Int.reduceNeg, Int.cast_ofNat_Int, decide_eq_true_eq, Nat.zero_add, Nat.add_zero, Int.toNat_natCast, Int.reduceLT, Int.reduceLE, Int.reduceBNe, Int.reduceEq, Int.natCast_add, Nat.le_refl, Int.zero_add]
    rw [e, wp_ok]
    try simp -implicitDefEqProofs -dsimp (disch := first | omega | (simp only [List.length_set, List.length_append, List.length_cons, List.length_nil, List.length_map]; omega)) only [↓wp_ok, ↓wp_err, ↓wp_exc, ↓wp_bind, ↓wp_var, ↓wp_cst, ↓wp_bin, ↓wp_neg, ↓wp_cmp, ↓wp_and, ↓wp_or, ↓wp_not, ↓wp_ite, ↓wp_tup, ↓wp_lst, ↓wp_idx, ↓wp_slc, ↓wp_call, ↓wp_bi, ↓wp_bl, ↓wp_mt, ↓wp_mk, ↓wp_lr1, ↓wp_lr2, ↓wp_aa, ↓wp_tr2, ↓wp_maxD, ↓wp_srt, ↓wp_glc, ↓wp_rgN, ↓wp_srtD, ↓wp_lc2, ↓wp_i3, ↓wp_iv, ↓mt_pp, ↓mt_ppA, ↓wp_esn, ↓wp_esc, ↓wp_pn, ↓wp_pa, ↓wp_tv, ↓wp_ta, ↓wp_to, ↓wp_tn, ↓wp_lo, ↓wp_ld, ↓wp_lc, ↓wp_tsn, ↓wp_tsc, ↓wp_io, ↓wp_i1, ↓wp_i2, ↓wp_iz, ↓wp_ie, ↓wo_some, ↓wo_none, ↓br_t, ↓br_f, ↓wps_ok, ↓wps_st, ↓wb_add, ↓wb_sub, ↓wb_mulR, ↓wb_mulL, ↓wb_div, ↓wb_mod, ↓wb_pow, ↓wb_addT, ↓wb_mulT, ↓wb_addL, ↓wb_mulLs, ↓wn_neg, ↓wc_eq, ↓wc_ne, ↓wc_lt, ↓wc_le, ↓wc_gt, ↓wc_ge, ↓wc_in, ↓wc_nin, ↓wc_isN, ↓wc_notN, ↓item_int, ↓sl_tup, ↓sl_ref, ↓bi_len, ↓bi_abs, ↓bi_int, ↓bi_intb, ↓bi_isI, ↓bi_max, ↓bi_min, ↓bi_divmod, ↓bi_lcm, ↓bi_gcd, ↓bl_sum, ↓bl_tuple, ↓bl_list, ↓bl_len, ↓bl_max, ↓bl_min, ↓mt_app, ↓mt_ext, ↓mt_ix, ↓setIt_ref, ↓ws_n, ↓ws_c, ↓ws_expr, ↓ws_asg, ↓ws_set, ↓ws_aug, ↓ws_augS, ↓ws_bad, ↓ws_if, ↓ws_for, ↓ws_whl, ↓ws_ret, ↓ws_retN, ↓ws_brk, ↓ws_cont, ↓ws_pass, ↓sq_n, ↓sq_b, ↓sq_c, ↓sq_r, ↓sq_z, ↓fin_ret, ↓fin_next, ↓fin_rz, ↓isTy_cv, ↓isTy_rt, ↓tr_cv, ↓tr_rt, look_z, look_s, rgW_rg, isNon_non, isNon_bl, isNon_int, isNon_str, isNon_tup, isNon_fl, isNon_ref, eqW_int, eqW_bl, tr_non, tr_bl, tr_int, tr_tup, ixN_in, ixN_neg, mtW_ref, seqOf_ref, seqOf_tup, seqOf_fl, seqOf_rt, seqOf_cv, isNon_rt, isNon_cv, isTup_rt, isTup_cv, guOf_rt, guOf_cv, isTy_rt, isTy_cv, cv_eq, rt_eq, asg_rt, asg_cv, asg_var, asg_tup2, asg_tup3, isTy, guOf, isTup, intW, aug_add, aug_sub, augO_a, augO_s, lstAt_z, lstAt_s, lstAt_al, lstAt_e, lstAt_ar, Nat.sub_self, Nat.add_sub_cancel_left, Nat.reduceSubDiff, List.append_assoc, lstAt_set, lstAt_ne, toInts_ints, toInts_nil, toInts_cons, toBls_nil, toBls_cons, Option.map_some, List.set_cons_succ, List.set_cons_zero, List.getElem?_cons_zero, List.getElem?_cons_succ, List.getElem_cons_zero, List.getElem_cons_succ, List.length_cons, List.length_nil, List.length_set, List.length_append, List.length_map, List.nil_append, List.cons_append, List.append_nil, List.set_set, Nat.reduceAdd, Nat.reduceLeDiff, Nat.reduceLT, Nat.reduceSub, true_and, and_true, Bool.not_true, Bool.not_false, decide_true, decide_false, Int.reduceToNat, Int.reducePow, Int.reduceNeg, Int.cast_ofNat_Int, decide_eq_true_eq, Nat.zero_add, Nat.add_zero, Int.toNat_natCast, Int.reduceLT, Int.reduceLE, Int.reduceBNe, Int.reduceEq, Int.natCast_add, Nat.le_refl]
    rw [tidy_one (Old.refl h) blw_int]
    exact ⟨rfl, rfl⟩
theorem work_ok {k : Nat} {h : Hw} {hd tn : List Int} {b j n : Nat} (C : Cal hd tn) (hb : b ≤ 1000000 ∧ j ≤ 1000000) (w : Wk hd tn b j n) : PhiN ds (k + 2) 12 [cv 0 hd tn, .int b, .int j] h = .ok (.int n) h := by
  have l := C.l
  have hS := C.hS
  generalize w1 : W.int (b : Int) = wb
  generalize w2 : W.int (j : Int) = wj
  refine wp_run (go__law_work ?_)
  subst w1
  subst w2
  unfold s__law_work
  try simp -implicitDefEqProofs -dsimp (disch := first | omega | (simp only [List.length_set, List.length_append, List.length_cons, List.length_nil, List.length_map]; omega)) only [↓wp_ok, ↓wp_err, ↓wp_exc, ↓wp_bind, ↓wp_var, ↓wp_cst, ↓wp_bin, ↓wp_neg, ↓wp_cmp, ↓wp_and, ↓wp_or, ↓wp_not, ↓wp_ite, ↓wp_tup, ↓wp_lst, ↓wp_idx, ↓wp_slc, ↓wp_call, ↓wp_bi, ↓wp_bl, ↓wp_mt, ↓wp_mk, ↓wp_lr1, ↓wp_lr2, ↓wp_aa, ↓wp_tr2, ↓wp_maxD, ↓wp_srt, ↓wp_glc, ↓wp_rgN, ↓wp_srtD, ↓wp_lc2, ↓wp_i3, ↓wp_iv, ↓mt_pp, ↓mt_ppA, ↓wp_esn, ↓wp_esc, ↓wp_pn, ↓wp_pa, ↓wp_tv, ↓wp_ta, ↓wp_to, ↓wp_tn, ↓wp_lo, ↓wp_ld, ↓wp_lc, ↓wp_tsn, ↓wp_tsc, ↓wp_io, ↓wp_i1, ↓wp_i2, ↓wp_iz, ↓wp_ie, ↓wo_some, ↓wo_none, ↓br_t, ↓br_f, ↓wps_ok, ↓wps_st, ↓wb_add, ↓wb_sub, ↓wb_mulR, ↓wb_mulL, ↓wb_div, ↓wb_mod, ↓wb_pow, ↓wb_addT, ↓wb_mulT, ↓wb_addL, ↓wb_mulLs, ↓wn_neg, ↓wc_eq, ↓wc_ne, ↓wc_lt, ↓wc_le, ↓wc_gt, ↓wc_ge, ↓wc_in, ↓wc_nin, ↓wc_isN, ↓wc_notN, ↓item_int, ↓sl_tup, ↓sl_ref, ↓bi_len, ↓bi_abs, ↓bi_int, ↓bi_intb, ↓bi_isI, ↓bi_max, ↓bi_min, ↓bi_divmod, ↓bi_lcm, ↓bi_gcd, ↓bl_sum, ↓bl_tuple, ↓bl_list, ↓bl_len, ↓bl_max, ↓bl_min, ↓mt_app, ↓mt_ext, ↓mt_ix, ↓setIt_ref, ↓ws_n, ↓ws_c, ↓ws_expr, ↓ws_asg, ↓ws_set, ↓ws_aug, ↓ws_augS, ↓ws_bad, ↓ws_if, ↓ws_for, ↓ws_whl, ↓ws_ret, ↓ws_retN, ↓ws_brk, ↓ws_cont, ↓ws_pass, ↓sq_n, ↓sq_b, ↓sq_c, ↓sq_r, ↓sq_z, ↓fin_ret, ↓fin_next, ↓fin_rz, ↓isTy_cv, ↓isTy_rt, ↓tr_cv, ↓tr_rt, look_z, look_s, rgW_rg, isNon_non, isNon_bl, isNon_int, isNon_str, isNon_tup, isNon_fl, isNon_ref, eqW_int, eqW_bl, tr_non, tr_bl, tr_int, tr_tup, ixN_in, ixN_neg, mtW_ref, seqOf_ref, seqOf_tup, seqOf_fl, seqOf_rt, seqOf_cv, isNon_rt, isNon_cv, isTup_rt, isTup_cv, guOf_rt, guOf_cv, isTy_rt, isTy_cv, cv_eq, rt_eq, asg_rt, asg_cv, asg_var, asg_tup2, asg_tup3, isTy, guOf, isTup, intW, aug_add, aug_sub, augO_a, augO_s, lstAt_z, lstAt_s, lstAt_al, lstAt_e, lstAt_ar, Nat.sub_self, Nat.add_sub_cancel_left, Nat.reduceSubDiff, List.append_assoc, lstAt_set, lstAt_ne, toInts_ints, toInts_nil, toInts_cons, toBls_nil, toBls_cons, Option.map_some, List.set_cons_succ, List.set_cons_zero, List.getElem?_cons_zero, List.getElem?_cons_succ, List.getElem_cons_zero, List.getElem_cons_succ, List.length_cons, List.length_nil, List.length_set, List.length_append, List.length_map, List.nil_append, List.cons_append, List.append_nil, List.set_set, Nat.reduceAdd, Nat.reduceLeDiff, Nat.reduceLT, Nat.reduceSub, true_and, and_true, Bool.not_true, Bool.not_false, decide_true, decide_false, Int.reduceToNat, Int.reducePow, Int.reduceNeg, Int.cast_ofNat_Int, decide_eq_true_eq, Nat.zero_add, Nat.add_zero, Int.toNat_natCast, Int.reduceLT, Int.reduceLE, Int.reduceBNe, Int.reduceEq, Int.natCast_add, Nat.le_refl]
  rcases w with ⟨rfl, rfl⟩ | ⟨a, w⟩
  · try simp -implicitDefEqProofs -dsimp (disch := first | omega | (simp only [List.length_set, List.length_append, List.length_cons, List.length_nil, List.length_map]; omega)) only [↓wp_ok, ↓wp_err, ↓wp_exc, ↓wp_bind, ↓wp_var, ↓wp_cst, ↓wp_bin, ↓wp_neg, ↓wp_cmp, ↓wp_and, ↓wp_or, ↓wp_not, ↓wp_ite, ↓wp_tup, ↓wp_lst, ↓wp_idx, ↓wp_slc, ↓wp_call, ↓wp_bi, ↓wp_bl, ↓wp_mt, ↓wp_mk, ↓wp_lr1, ↓wp_lr2, ↓wp_aa, ↓wp_tr2, ↓wp_maxD, ↓wp_srt, ↓wp_glc, ↓wp_rgN, ↓wp_srtD, ↓wp_lc2, ↓wp_i3, ↓wp_iv, ↓mt_pp, ↓mt_ppA, ↓wp_esn, ↓wp_esc, ↓wp_pn, ↓wp_pa, ↓wp_tv, ↓wp_ta, ↓wp_to, ↓wp_tn, ↓wp_lo, ↓wp_ld, ↓wp_lc, ↓wp_tsn, ↓wp_tsc, ↓wp_io, ↓wp_i1, ↓wp_i2, ↓wp_iz, ↓wp_ie, ↓wo_some, ↓wo_none, ↓br_t, ↓br_f, ↓wps_ok, ↓wps_st, ↓wb_add, ↓wb_sub, ↓wb_mulR, ↓wb_mulL, ↓wb_div, ↓wb_mod, ↓wb_pow, ↓wb_addT, ↓wb_mulT, ↓wb_addL, ↓wb_mulLs, ↓wn_neg, ↓wc_eq, ↓wc_ne, ↓wc_lt, ↓wc_le, ↓wc_gt, ↓wc_ge, ↓wc_in, ↓wc_nin, ↓wc_isN, ↓wc_notN, ↓item_int, ↓sl_tup, ↓sl_ref, ↓bi_len, ↓bi_abs, ↓bi_int, ↓bi_intb, ↓bi_isI, ↓bi_max, ↓bi_min, ↓bi_divmod, ↓bi_lcm, ↓bi_gcd, ↓bl_sum, ↓bl_tuple, ↓bl_list, ↓bl_len, ↓bl_max, ↓bl_min, ↓mt_app, ↓mt_ext, ↓mt_ix, ↓setIt_ref, ↓ws_n, ↓ws_c, ↓ws_expr, ↓ws_asg, ↓ws_set, ↓ws_aug, ↓ws_augS, ↓ws_bad, ↓ws_if, ↓ws_for, ↓ws_whl, ↓ws_ret, ↓ws_retN, ↓ws_brk, ↓ws_cont, ↓ws_pass, ↓sq_n, ↓sq_b, ↓sq_c, ↓sq_r, ↓sq_z, ↓fin_ret, ↓fin_next, ↓fin_rz, ↓isTy_cv, ↓isTy_rt, ↓tr_cv, ↓tr_rt, look_z, look_s, rgW_rg, isNon_non, isNon_bl, isNon_int, isNon_str, isNon_tup, isNon_fl, isNon_ref, eqW_int, eqW_bl, tr_non, tr_bl, tr_int, tr_tup, ixN_in, ixN_neg, mtW_ref, seqOf_ref, seqOf_tup, seqOf_fl, seqOf_rt, seqOf_cv, isNon_rt, isNon_cv, isTup_rt, isTup_cv, guOf_rt, guOf_cv, isTy_rt, isTy_cv, cv_eq, rt_eq, asg_rt, asg_cv, asg_var, asg_tup2, asg_tup3, isTy, guOf, isTup, intW, aug_add, aug_sub, augO_a, augO_s, lstAt_z, lstAt_s, lstAt_al, lstAt_e, lstAt_ar, Nat.sub_self, Nat.add_sub_cancel_left, Nat.reduceSubDiff, List.append_assoc, lstAt_set, lstAt_ne, toInts_ints, toInts_nil, toInts_cons, toBls_nil, toBls_cons, Option.map_some, List.set_cons_succ, List.set_cons_zero, List.getElem?_cons_zero, List.getElem?_cons_succ, List.getElem_cons_zero, List.getElem_cons_succ, List.length_cons, List.length_nil, List.length_set, List.length_append, List.length_map, List.nil_append, List.cons_append, List.append_nil, List.set_set, Nat.reduceAdd, Nat.reduceLeDiff, Nat.reduceLT, Nat.reduceSub, true_and, and_true, Bool.not_true, Bool.not_false, decide_true, decide_false, Int.reduceToNat, Int.reducePow, Int.reduceNeg, Int.cast_ofNat_Int, decide_eq_true_eq, Nat.zero_add, Nat.add_zero, Int.toNat_natCast, Int.reduceLT, Int.reduceLE, Int.reduceBNe, Int.reduceEq, Int.natCast_add, Nat.le_refl, Int.natCast_zero]
    rw [tidy_one (Old.refl h) blw_int]
    exact ⟨rfl, rfl⟩
  · have e0 : decide ((j : Int) = 0) = false := decide_eq_false (by omega)
    have hm : j * tn.length ≤ 1000000 * 4 := Nat.mul_le_mul hb.2 l.2.2
    have em : (tn.length : Int) * (j : Int) = ((j * tn.length : Nat) : Int) := by rw [Int.natCast_mul, Int.mul_comm]
    try simp -implicitDefEqProofs -dsimp (disch := first | omega | (simp only [List.length_set, List.length_append, List.length_cons, List.length_nil, List.length_map]; omega)) only [↓wp_ok, ↓wp_err, ↓wp_exc, ↓wp_bind, ↓wp_var, ↓wp_cst, ↓wp_bin, ↓wp_neg, ↓wp_cmp, ↓wp_and, ↓wp_or, ↓wp_not, ↓wp_ite, ↓wp_tup, ↓wp_lst, ↓wp_idx, ↓wp_slc, ↓wp_call, ↓wp_bi, ↓wp_bl, ↓wp_mt, ↓wp_mk, ↓wp_lr1, ↓wp_lr2, ↓wp_aa, ↓wp_tr2, ↓wp_maxD, ↓wp_srt, ↓wp_glc, ↓wp_rgN, ↓wp_srtD, ↓wp_lc2, ↓wp_i3, ↓wp_iv, ↓mt_pp, ↓mt_ppA, ↓wp_esn, ↓wp_esc, ↓wp_pn, ↓wp_pa, ↓wp_tv, ↓wp_ta, ↓wp_to, ↓wp_tn, ↓wp_lo, ↓wp_ld, ↓wp_lc, ↓wp_tsn, ↓wp_tsc, ↓wp_io, ↓wp_i1, ↓wp_i2, ↓wp_iz, ↓wp_ie, ↓wo_some, ↓wo_none, ↓br_t, ↓br_f, ↓wps_ok, ↓wps_st, ↓wb_add, ↓wb_sub, ↓wb_mulR, ↓wb_mulL, ↓wb_div, ↓wb_mod, ↓wb_pow, ↓wb_addT, ↓wb_mulT, ↓wb_addL, ↓wb_mulLs, ↓wn_neg, ↓wc_eq, ↓wc_ne, ↓wc_lt, ↓wc_le, ↓wc_gt, ↓wc_ge, ↓wc_in, ↓wc_nin, ↓wc_isN, ↓wc_notN, ↓item_int, ↓sl_tup, ↓sl_ref, ↓bi_len, ↓bi_abs, ↓bi_int, ↓bi_intb, ↓bi_isI, ↓bi_max, ↓bi_min, ↓bi_divmod, ↓bi_lcm, ↓bi_gcd, ↓bl_sum, ↓bl_tuple, ↓bl_list, ↓bl_len, ↓bl_max, ↓bl_min, ↓mt_app, ↓mt_ext, ↓mt_ix, ↓setIt_ref, ↓ws_n, ↓ws_c, ↓ws_expr, ↓ws_asg, ↓ws_set, ↓ws_aug, ↓ws_augS, ↓ws_bad, ↓ws_if, ↓ws_for, ↓ws_whl, ↓ws_ret, ↓ws_retN, ↓ws_brk, ↓ws_cont, ↓ws_pass, ↓sq_n, ↓sq_b, ↓sq_c, ↓sq_r, ↓sq_z, ↓fin_ret, ↓fin_next, ↓fin_rz, ↓isTy_cv, ↓isTy_rt, ↓tr_cv, ↓tr_rt, look_z, look_s, rgW_rg, isNon_non, isNon_bl, isNon_int, isNon_str, isNon_tup, isNon_fl, isNon_ref, eqW_int, eqW_bl, tr_non, tr_bl, tr_int, tr_tup, ixN_in, ixN_neg, mtW_ref, seqOf_ref, seqOf_tup, seqOf_fl, seqOf_rt, seqOf_cv, isNon_rt, isNon_cv, isTup_rt, isTup_cv, guOf_rt, guOf_cv, isTy_rt, isTy_cv, cv_eq, rt_eq, asg_rt, asg_cv, asg_var, asg_tup2, asg_tup3, isTy, guOf, isTup, intW, aug_add, aug_sub, augO_a, augO_s, lstAt_z, lstAt_s, lstAt_al, lstAt_e, lstAt_ar, Nat.sub_self, Nat.add_sub_cancel_left, Nat.reduceSubDiff, List.append_assoc, lstAt_set, lstAt_ne, toInts_ints, toInts_nil, toInts_cons, toBls_nil, toBls_cons, Option.map_some, List.set_cons_succ, List.set_cons_zero, List.getElem?_cons_zero, List.getElem?_cons_succ, List.getElem_cons_zero, List.getElem_cons_succ, List.length_cons, List.length_nil, List.length_set, List.length_append, List.length_map, List.nil_append, List.cons_append, List.append_nil, List.set_set, Nat.reduceAdd, Nat.reduceLeDiff, Nat.reduceLT, Nat.reduceSub, true_and, and_true, Bool.not_true, Bool.not_false, decide_true, decide_false, Int.reduceToNat, Int.reducePow, Int.reduceNeg, Int.cast_ofNat_Int, decide_eq_true_eq, Nat.zero_add, Nat.add_zero, Int.toNat_natCast, Int.reduceLT, Int.reduceLE, Int.reduceBNe, Int.reduceEq, Int.natCast_add, Nat.le_refl, e0, em]
    refine ⟨by omega, ?_⟩
    refine wps_rng (fun t ρ g => g = h ∧ psum (stp hd tn) (b + t) - psum (stp hd tn) b < j ∧ ∃ x4, ρ = [some (cv 0 hd tn), some (.int b), some (.int j), some (.int (j - (psum (stp hd tn) (b + t) - psum (stp hd tn) b))), x4]) ?_ ⟨rfl, by simp; omega, none, by simp⟩ ?_
    · rintro t ρ g ht ⟨rfl, hlt, x4, rfl⟩
      have e1 : (b : Int) + (t : Int) = ((b + t : Nat) : Int) := by omega
      have pe : psum (stp hd tn) (b + t + 1) = psum (stp hd tn) (b + t) + stp hd tn (b + t) := rfl
      have u := C.u (b + t)
      have eb : (if stp hd tn (b + t) = 1 then (1 : Int) else 0) = stp hd tn (b + t) := by
        by_cases c : stp hd tn (b + t) = 1
        · rw [if_pos c, c]
        · rw [if_neg c]; omega
      try simp -implicitDefEqProofs -dsimp (disch := first | omega | (simp only [List.length_set, List.length_append, List.length_cons, List.length_nil, List.length_map]; omega)) only [↓wp_ok, ↓wp_err, ↓wp_exc, ↓wp_bind, ↓wp_var, ↓wp_cst, ↓wp_bin, ↓wp_neg, ↓wp_cmp, ↓wp_and, ↓wp_or, ↓wp_not, ↓wp_ite, ↓wp_tup, ↓wp_lst, ↓wp_idx, ↓wp_slc, ↓wp_call, ↓wp_bi, ↓wp_bl, ↓wp_mt, ↓wp_mk, ↓wp_lr1, ↓wp_lr2, ↓wp_aa, ↓wp_tr2, ↓wp_maxD, ↓wp_srt, ↓wp_glc, ↓wp_rgN, ↓wp_srtD, ↓wp_lc2, ↓wp_i3, ↓wp_iv, ↓mt_pp, ↓mt_ppA, ↓wp_esn, ↓wp_esc, ↓wp_pn, ↓wp_pa, ↓wp_tv, ↓wp_ta, ↓wp_to, ↓wp_tn, ↓wp_lo, ↓wp_ld, ↓wp_lc, ↓wp_tsn, ↓wp_tsc, ↓wp_io, ↓wp_i1, ↓wp_i2, ↓wp_iz, ↓wp_ie, ↓wo_some, ↓wo_none, ↓br_t, ↓br_f, ↓wps_ok, ↓wps_st, ↓wb_add, ↓wb_sub, ↓wb_mulR, ↓wb_mulL, ↓wb_div, ↓wb_mod, ↓wb_pow, ↓wb_addT, ↓wb_mulT, ↓wb_addL, ↓wb_mulLs, ↓wn_neg, ↓wc_eq, ↓wc_ne, ↓wc_lt, ↓wc_le, ↓wc_gt, ↓wc_ge, ↓wc_in, ↓wc_nin, ↓wc_isN, ↓wc_notN, ↓item_int, ↓sl_tup, ↓sl_ref, ↓bi_len, ↓bi_abs, ↓bi_int, ↓bi_intb, ↓bi_isI, ↓bi_max, ↓bi_min, ↓bi_divmod, ↓bi_lcm, ↓bi_gcd, ↓bl_sum, ↓bl_tuple, ↓bl_list, ↓bl_len, ↓bl_max, ↓bl_min, ↓mt_app, ↓mt_ext, ↓mt_ix, ↓setIt_ref, ↓ws_n, ↓ws_c, ↓ws_expr, ↓ws_asg, ↓ws_set, ↓ws_aug, ↓ws_augS, ↓ws_bad, ↓ws_if, ↓ws_for, ↓ws_whl, ↓ws_ret, ↓ws_retN, ↓ws_brk, ↓ws_cont, ↓ws_pass, ↓sq_n, ↓sq_b, ↓sq_c, ↓sq_r, ↓sq_z, ↓fin_ret, ↓fin_next, ↓fin_rz, ↓isTy_cv, ↓isTy_rt, ↓tr_cv, ↓tr_rt, look_z, look_s, rgW_rg, isNon_non, isNon_bl, isNon_int, isNon_str, isNon_tup, isNon_fl, isNon_ref, eqW_int, eqW_bl, tr_non, tr_bl, tr_int, tr_tup, ixN_in, ixN_neg, mtW_ref, seqOf_ref, seqOf_tup, seqOf_fl, seqOf_rt, seqOf_cv, isNon_rt, isNon_cv, isTup_rt, isTup_cv, guOf_rt, guOf_cv, isTy_rt, isTy_cv, cv_eq, rt_eq, asg_rt, asg_cv, asg_var, asg_tup2, asg_tup3, isTy, guOf, isTup, intW, aug_add, aug_sub, augO_a, augO_s, lstAt_z, lstAt_s, lstAt_al, lstAt_e, lstAt_ar, Nat.sub_self, Nat.add_sub_cancel_left, Nat.reduceSubDiff, List.append_assoc, lstAt_set, lstAt_ne, toInts_ints, toInts_nil, toInts_cons, toBls_nil, toBls_cons, Option.map_some, List.set_cons_succ, List.set_cons_zero, List.getElem?_cons_zero, List.getElem?_cons_succ, List.getElem_cons_zero, List.getElem_cons_succ, List.length_cons, List.length_nil, List.length_set, List.length_append, List.length_map, List.nil_append, List.cons_append, List.append_nil, List.set_set, Nat.reduceAdd, Nat.reduceLeDiff, Nat.reduceLT, Nat.reduceSub, true_and, and_true, Bool.not_true, Bool.not_false, decide_true, decide_false, Int.reduceToNat, Int.reducePow, Int.reduceNeg, Int.cast_ofNat_Int, decide_eq_true_eq, Nat.zero_add, Nat.add_zero, Int.toNat_natCast, Int.reduceLT, Int.reduceLE, Int.reduceBNe, Int.reduceEq, Nat.le_refl, b__law_work_1, e1]
      rw [step_ok (by omega), wp_ok]
      try simp -implicitDefEqProofs -dsimp (disch := first | omega | (simp only [List.length_set, List.length_append, List.length_cons, List.length_nil, List.length_map]; omega)) only [↓wp_ok, ↓wp_err, ↓wp_exc, ↓wp_bind, ↓wp_var, ↓wp_cst, ↓wp_bin, ↓wp_neg, ↓wp_cmp, ↓wp_and, ↓wp_or, ↓wp_not, ↓wp_ite, ↓wp_tup, ↓wp_lst, ↓wp_idx, ↓wp_slc, ↓wp_call, ↓wp_bi, ↓wp_bl, ↓wp_mt, ↓wp_mk, ↓wp_lr1, ↓wp_lr2, ↓wp_aa, ↓wp_tr2, ↓wp_maxD, ↓wp_srt, ↓wp_glc, ↓wp_rgN, ↓wp_srtD, ↓wp_lc2, ↓wp_i3, ↓wp_iv, ↓mt_pp, ↓mt_ppA, ↓wp_esn, ↓wp_esc, ↓wp_pn, ↓wp_pa, ↓wp_tv, ↓wp_ta, ↓wp_to, ↓wp_tn, ↓wp_lo, ↓wp_ld, ↓wp_lc, ↓wp_tsn, ↓wp_tsc, ↓wp_io, ↓wp_i1, ↓wp_i2, ↓wp_iz, ↓wp_ie, ↓wo_some, ↓wo_none, ↓br_t, ↓br_f, ↓wps_ok, ↓wps_st, ↓wb_add, ↓wb_sub, ↓wb_mulR, ↓wb_mulL, ↓wb_div, ↓wb_mod, ↓wb_pow, ↓wb_addT, ↓wb_mulT, ↓wb_addL, ↓wb_mulLs, ↓wn_neg, ↓wc_eq, ↓wc_ne, ↓wc_lt, ↓wc_le, ↓wc_gt, ↓wc_ge, ↓wc_in, ↓wc_nin, ↓wc_isN, ↓wc_notN, ↓item_int, ↓sl_tup, ↓sl_ref, ↓bi_len, ↓bi_abs, ↓bi_int, ↓bi_intb, ↓bi_isI, ↓bi_max, ↓bi_min, ↓bi_divmod, ↓bi_lcm, ↓bi_gcd, ↓bl_sum, ↓bl_tuple, ↓bl_list, ↓bl_len, ↓bl_max, ↓bl_min, ↓mt_app, ↓mt_ext, ↓mt_ix, ↓setIt_ref, ↓ws_n, ↓ws_c, ↓ws_expr, ↓ws_asg, ↓ws_set, ↓ws_aug, ↓ws_augS, ↓ws_bad, ↓ws_if, ↓ws_for, ↓ws_whl, ↓ws_ret, ↓ws_retN, ↓ws_brk, ↓ws_cont, ↓ws_pass, ↓sq_n, ↓sq_b, ↓sq_c, ↓sq_r, ↓sq_z, ↓fin_ret, ↓fin_next, ↓fin_rz, ↓isTy_cv, ↓isTy_rt, ↓tr_cv, ↓tr_rt, look_z, look_s, rgW_rg, isNon_non, isNon_bl, isNon_int, isNon_str, isNon_tup, isNon_fl, isNon_ref, eqW_int, eqW_bl, tr_non, tr_bl, tr_int, tr_tup, ixN_in, ixN_neg, mtW_ref, seqOf_ref, seqOf_tup, seqOf_fl, seqOf_rt, seqOf_cv, isNon_rt, isNon_cv, isTup_rt, isTup_cv, guOf_rt, guOf_cv, isTy_rt, isTy_cv, cv_eq, rt_eq, asg_rt, asg_cv, asg_var, asg_tup2, asg_tup3, isTy, guOf, isTup, intW, aug_add, aug_sub, augO_a, augO_s, lstAt_z, lstAt_s, lstAt_al, lstAt_e, lstAt_ar, Nat.sub_self, Nat.add_sub_cancel_left, Nat.reduceSubDiff, List.append_assoc, lstAt_set, lstAt_ne, toInts_ints, toInts_nil, toInts_cons, toBls_nil, toBls_cons, Option.map_some, List.set_cons_succ, List.set_cons_zero, List.getElem?_cons_zero, List.getElem?_cons_succ, List.getElem_cons_zero, List.getElem_cons_succ, List.length_cons, List.length_nil, List.length_set, List.length_append, List.length_map, List.nil_append, List.cons_append, List.append_nil, List.set_set, Nat.reduceAdd, Nat.reduceLeDiff, Nat.reduceLT, Nat.reduceSub, true_and, and_true, Bool.not_true, Bool.not_false, decide_true, decide_false, Int.reduceToNat, Int.reducePow, Int.reduceNeg, Int.cast_ofNat_Int, decide_eq_true_eq, Nat.zero_add, Nat.add_zero, Int.toNat_natCast, Int.reduceLT, Int.reduceLE, Int.reduceBNe, Int.reduceEq, Nat.le_refl, decide_eq_true_eq, eb]
      refine br_intro (fun hq => ?_) (fun hq => ?_)
      · try simp -implicitDefEqProofs -dsimp (disch := first | omega | (simp only [List.length_set, List.length_append, List.length_cons, List.length_nil, List.length_map]; omega)) only [↓wp_ok, ↓wp_err, ↓wp_exc, ↓wp_bind, ↓wp_var, ↓wp_cst, ↓wp_bin, ↓wp_neg, ↓wp_cmp, ↓wp_and, ↓wp_or, ↓wp_not, ↓wp_ite, ↓wp_tup, ↓wp_lst, ↓wp_idx, ↓wp_slc, ↓wp_call, ↓wp_bi, ↓wp_bl, ↓wp_mt, ↓wp_mk, ↓wp_lr1, ↓wp_lr2, ↓wp_aa, ↓wp_tr2, ↓wp_maxD, ↓wp_srt, ↓wp_glc, ↓wp_rgN, ↓wp_srtD, ↓wp_lc2, ↓wp_i3, ↓wp_iv, ↓mt_pp, ↓mt_ppA, ↓wp_esn, ↓wp_esc, ↓wp_pn, ↓wp_pa, ↓wp_tv, ↓wp_ta, ↓wp_to, ↓wp_tn, ↓wp_lo, ↓wp_ld, ↓wp_lc, ↓wp_tsn, ↓wp_tsc, ↓wp_io, ↓wp_i1, ↓wp_i2, ↓wp_iz, ↓wp_ie, ↓wo_some, ↓wo_none, ↓br_t, ↓br_f, ↓wps_ok, ↓wps_st, ↓wb_add, ↓wb_sub, ↓wb_mulR, ↓wb_mulL, ↓wb_div, ↓wb_mod, ↓wb_pow, ↓wb_addT, ↓wb_mulT, ↓wb_addL, ↓wb_mulLs, ↓wn_neg, ↓wc_eq, ↓wc_ne, ↓wc_lt, ↓wc_le, ↓wc_gt, ↓wc_ge, ↓wc_in, ↓wc_nin, ↓wc_isN, ↓wc_notN, ↓item_int, ↓sl_tup, ↓sl_ref, ↓bi_len, ↓bi_abs, ↓bi_int, ↓bi_intb, ↓bi_isI, ↓bi_max, ↓bi_min, ↓bi_divmod, ↓bi_lcm, ↓bi_gcd, ↓bl_sum, ↓bl_tuple, ↓bl_list, ↓bl_len, ↓bl_max, ↓bl_min, ↓mt_app, ↓mt_ext, ↓mt_ix, ↓setIt_ref, ↓ws_n, ↓ws_c, ↓ws_expr, ↓ws_asg, ↓ws_set, ↓ws_aug, ↓ws_augS, ↓ws_bad, ↓ws_if, ↓ws_for, ↓ws_whl, ↓ws_ret, ↓ws_retN, ↓ws_brk, ↓ws_cont, ↓ws_pass, ↓sq_n, ↓sq_b, ↓sq_c, ↓sq_r, ↓sq_z, ↓fin_ret, ↓fin_next, ↓fin_rz, ↓isTy_cv, ↓isTy_rt, ↓tr_cv, ↓tr_rt, look_z, look_s, rgW_rg, isNon_non, isNon_bl, isNon_int, isNon_str, isNon_tup, isNon_fl, isNon_ref, eqW_int, eqW_bl, tr_non, tr_bl, tr_int, tr_tup, ixN_in, ixN_neg, mtW_ref, seqOf_ref, seqOf_tup, seqOf_fl, seqOf_rt, seqOf_cv, isNon_rt, isNon_cv, isTup_rt, isTup_cv, guOf_rt, guOf_cv, isTy_rt, isTy_cv, cv_eq, rt_eq, asg_rt, asg_cv, asg_var, asg_tup2, asg_tup3, isTy, guOf, isTup, intW, aug_add, aug_sub, augO_a, augO_s, lstAt_z, lstAt_s, lstAt_al, lstAt_e, lstAt_ar, Nat.sub_self, Nat.add_sub_cancel_left, Nat.reduceSubDiff, List.append_assoc, lstAt_set, lstAt_ne, toInts_ints, toInts_nil, toInts_cons, toBls_nil, toBls_cons, Option.map_some, List.set_cons_succ, List.set_cons_zero, List.getElem?_cons_zero, List.getElem?_cons_succ, List.getElem_cons_zero, List.getElem_cons_succ, List.length_cons, List.length_nil, List.length_set, List.length_append, List.length_map, List.nil_append, List.cons_append, List.append_nil, List.set_set, Nat.reduceAdd, Nat.reduceLeDiff, Nat.reduceLT, Nat.reduceSub, true_and, and_true, Bool.not_true, Bool.not_false, decide_true, decide_false, Int.reduceToNat, Int.reducePow, Int.reduceNeg, Int.cast_ofNat_Int, decide_eq_true_eq, Nat.zero_add, Nat.add_zero, Int.toNat_natCast, Int.reduceLT, Int.reduceLE, Int.reduceBNe, Int.reduceEq, Nat.le_refl]
        rw [tidy_one (Old.refl g) blw_int]
        have Lt : Least 0 (stp hd tn) (psum (stp hd tn) b + j) (b + t + 1) := Least.succ C.hu (by rw [pe]; omega) (by omega)
        obtain rfl := w.unique Lt
        exact ⟨by simp, rfl⟩
      · try simp -implicitDefEqProofs -dsimp (disch := first | omega | (simp only [List.length_set, List.length_append, List.length_cons, List.length_nil, List.length_map]; omega)) only [↓wp_ok, ↓wp_err, ↓wp_exc, ↓wp_bind, ↓wp_var, ↓wp_cst, ↓wp_bin, ↓wp_neg, ↓wp_cmp, ↓wp_and, ↓wp_or, ↓wp_not, ↓wp_ite, ↓wp_tup, ↓wp_lst, ↓wp_idx, ↓wp_slc, ↓wp_call, ↓wp_bi, ↓wp_bl, ↓wp_mt, ↓wp_mk, ↓wp_lr1, ↓wp_lr2, ↓wp_aa, ↓wp_tr2, ↓wp_maxD, ↓wp_srt, ↓wp_glc, ↓wp_rgN, ↓wp_srtD, ↓wp_lc2, ↓wp_i3, ↓wp_iv, ↓mt_pp, ↓mt_ppA, ↓wp_esn, ↓wp_esc, ↓wp_pn, ↓wp_pa, ↓wp_tv, ↓wp_ta, ↓wp_to, ↓wp_tn, ↓wp_lo, ↓wp_ld, ↓wp_lc, ↓wp_tsn, ↓wp_tsc, ↓wp_io, ↓wp_i1, ↓wp_i2, ↓wp_iz, ↓wp_ie, ↓wo_some, ↓wo_none, ↓br_t, ↓br_f, ↓wps_ok, ↓wps_st, ↓wb_add, ↓wb_sub, ↓wb_mulR, ↓wb_mulL, ↓wb_div, ↓wb_mod, ↓wb_pow, ↓wb_addT, ↓wb_mulT, ↓wb_addL, ↓wb_mulLs, ↓wn_neg, ↓wc_eq, ↓wc_ne, ↓wc_lt, ↓wc_le, ↓wc_gt, ↓wc_ge, ↓wc_in, ↓wc_nin, ↓wc_isN, ↓wc_notN, ↓item_int, ↓sl_tup, ↓sl_ref, ↓bi_len, ↓bi_abs, ↓bi_int, ↓bi_intb, ↓bi_isI, ↓bi_max, ↓bi_min, ↓bi_divmod, ↓bi_lcm, ↓bi_gcd, ↓bl_sum, ↓bl_tuple, ↓bl_list, ↓bl_len, ↓bl_max, ↓bl_min, ↓mt_app, ↓mt_ext, ↓mt_ix, ↓setIt_ref, ↓ws_n, ↓ws_c, ↓ws_expr, ↓ws_asg, ↓ws_set, ↓ws_aug, ↓ws_augS, ↓ws_bad, ↓ws_if, ↓ws_for, ↓ws_whl, ↓ws_ret, ↓ws_retN, ↓ws_brk, ↓ws_cont, ↓ws_pass, ↓sq_n, ↓sq_b, ↓sq_c, ↓sq_r, ↓sq_z, ↓fin_ret, ↓fin_next, ↓fin_rz, ↓isTy_cv, ↓isTy_rt, ↓tr_cv, ↓tr_rt, look_z, look_s, rgW_rg, isNon_non, isNon_bl, isNon_int, isNon_str, isNon_tup, isNon_fl, isNon_ref, eqW_int, eqW_bl, tr_non, tr_bl, tr_int, tr_tup, ixN_in, ixN_neg, mtW_ref, seqOf_ref, seqOf_tup, seqOf_fl, seqOf_rt, seqOf_cv, isNon_rt, isNon_cv, isTup_rt, isTup_cv, guOf_rt, guOf_cv, isTy_rt, isTy_cv, cv_eq, rt_eq, asg_rt, asg_cv, asg_var, asg_tup2, asg_tup3, isTy, guOf, isTup, intW, aug_add, aug_sub, augO_a, augO_s, lstAt_z, lstAt_s, lstAt_al, lstAt_e, lstAt_ar, Nat.sub_self, Nat.add_sub_cancel_left, Nat.reduceSubDiff, List.append_assoc, lstAt_set, lstAt_ne, toInts_ints, toInts_nil, toInts_cons, toBls_nil, toBls_cons, Option.map_some, List.set_cons_succ, List.set_cons_zero, List.getElem?_cons_zero, List.getElem?_cons_succ, List.getElem_cons_zero, List.getElem_cons_succ, List.length_cons, List.length_nil, List.length_set, List.length_append, List.length_map, List.nil_append, List.cons_append, List.append_nil, List.set_set, Nat.reduceAdd, Nat.reduceLeDiff, Nat.reduceLT, Nat.reduceSub, true_and, and_true, Bool.not_true, Bool.not_false, decide_true, decide_false, Int.reduceToNat, Int.reducePow, Int.reduceNeg, Int.cast_ofNat_Int, decide_eq_true_eq, Nat.zero_add, Nat.add_zero, Int.toNat_natCast, Int.reduceLT, Int.reduceLE, Int.reduceBNe, Int.reduceEq, Nat.le_refl]
        have pe' : psum (stp hd tn) (b + (t + 1)) = psum (stp hd tn) (b + t) + stp hd tn (b + t) := pe
        rw [pe']
        refine ⟨by omega, some (.int ((b + t : Nat) : Int)), ?_⟩
        rw [show (j : Int) - (psum (stp hd tn) (b + t) + stp hd tn (b + t) - psum (stp hd tn) b) = j - (psum (stp hd tn) (b + t) - psum (stp hd tn) b) - stp hd tn (b + t) from by omega]
    · rintro ρ g ⟨rfl, hlt, x4, rfl⟩
      exfalso
      have q := psum_pers (hd := hd) (tn := tn) (n := b + hd.length) l.2.1 (by omega) j
      have m1 := psum_mono C.hu (show b ≤ b + hd.length by omega)
      have m2 : (j : Int) * 1 ≤ j * tn.sum := Int.mul_le_mul_of_nonneg_left (by omega) (by omega)
      have en : b + ((b : Int) + hd.length + ((j * tn.length : Nat) : Int) - b).toNat = b + hd.length + j * tn.length := by omega
      rw [en] at hlt
      omega
end Law

namespace Law
open PySem Ev
def oW : Option Nat → W
  | none => .non
  | some n => .int n
/-- the latest start of j open hours by e -/
def Ls (hd tn : List Int) (e j : Nat) (o : Option Nat) : Prop := (j = 0 ∧ o = some e) ∨ (0 < j ∧ match o with
  | none => psum (stp hd tn) e < j
  | some b => (j : Int) ≤ psum (stp hd tn) e ∧ Least 0 (stp hd tn) (psum (stp hd tn) e - j + 1) (b + 1))
theorem ls_ex {hd tn : List Int} (C : Cal hd tn) (e j : Nat) : ∃ o, Ls hd tn e j o := by
  by_cases c : j = 0
  · exact ⟨some e, .inl ⟨c, rfl⟩⟩
  · by_cases c2 : psum (stp hd tn) e < j
    · exact ⟨none, .inr ⟨by omega, c2⟩⟩
    · obtain ⟨n, Ln, _⟩ := least_ok (k := 0) (h := []) (i := 0) (x := psum (stp hd tn) e - j + 1) C.hu C.hS (by have := C.l; omega)
      cases n with
      | zero => have := Ln.ge; simp [psum] at this; omega
      | succ n => exact ⟨some n, .inr ⟨by omega, by omega, Ln⟩⟩
theorem Ls.unique {hd tn : List Int} {e j : Nat} {o o' : Option Nat} (x : Ls hd tn e j o) (y : Ls hd tn e j o') : o = o' := by
  rcases x with ⟨a, rfl⟩ | ⟨a, x⟩ <;> rcases y with ⟨b, rfl⟩ | ⟨b, y⟩
  · rfl
  · omega
  · omega
  · cases o <;> cases o' <;> dsimp only at x y
    · rfl
    · omega
    · omega
    · have := x.2.unique y.2
      rw [show _ = _ from Nat.succ.inj this]
theorem Ls.le {hd tn : List Int} {e j b : Nat} (C : Cal hd tn) (x : Ls hd tn e j (some b)) : b ≤ e := by
  rcases x with ⟨a, x⟩ | ⟨a, x⟩
  · cases x; exact Nat.le_refl _
  · dsimp only at x
    have := (x.2.iff C.hu (b + 1)).mp (Nat.le_refl _)
    by_cases c : b ≤ e
    · exact c
    · have h1 := x.2.lt e (by omega)
      -- at e the sum has already come
      have := x.2.lt b (by omega)
      have m := psum_mono C.hu (show e ≤ b by omega)
      omega
/-- who is done by e -/
theorem by_iff {hd tn : List Int} {e j s n : Nat} {o : Option Nat} (C : Cal hd tn) (x : Ls hd tn e j o) (w : Wk hd tn s j n) : n ≤ e ↔ ∃ b, o = some b ∧ s ≤ b := by
  rcases w with ⟨rfl, rfl⟩ | ⟨a, w⟩
  · rcases x with ⟨_, rfl⟩ | ⟨b, _⟩
    · simp
    · omega
  · rcases x with ⟨b, _⟩ | ⟨_, x⟩
    · omega
    · have w1 := w.iff C.hu e
      rw [w1]
      have nn := psum_nn C.hu s
      cases o with
      | none =>
        dsimp only at x
        constructor
        · intro h; omega
        · rintro ⟨b, hb, _⟩; cases hb
      | some b =>
        dsimp only at x
        have x1 := x.2.iff C.hu s
        constructor
        · intro h
          refine ⟨b, rfl, ?_⟩
          by_cases c : s ≤ b
          · exact c
          · have := x1.mp (by omega); omega
        · rintro ⟨b', hb, hs⟩
          cases hb
          have : ¬ (b + 1 ≤ s) := by omega
          rw [x1] at this
          omega
theorem great_ok {k : Nat} {h : Hw} {hd tn : List Int} {x : Int} {n : Nat} (C : Cal hd tn) (L : Least 0 (stp hd tn) (x + 1) n) : PhiN ds (k + 2) 2 [cv 0 hd tn, .int x] h = .ok (.int ((n : Int) - 1)) h := by
  have l := C.l
  have hS := C.hS
  refine wp_run (go_greatest_point ?_)
  unfold s_greatest_point
  obtain ⟨m, M, e⟩ := least_ok (k := k) (h := h) (i := 0) (x := x + 1) C.hu hS (by omega)
  obtain rfl := L.unique M
  try simp -implicitDefEqProofs -dsimp (disch := first | omega | (simp only [List.length_set, List.length_append, List.length_cons, List.length_nil, List.length_map]; omega)) only [↓wp_ok, ↓wp_err, ↓wp_exc, ↓wp_bind, ↓wp_var, ↓wp_cst, ↓wp_bin, ↓wp_neg, ↓wp_cmp, ↓wp_and, ↓wp_or, ↓wp_not, ↓wp_ite, ↓wp_tup, ↓wp_lst, ↓wp_idx, ↓wp_slc, ↓wp_call, ↓wp_bi, ↓wp_bl, ↓wp_mt, ↓wp_mk, ↓wp_lr1, ↓wp_lr2, ↓wp_aa, ↓wp_tr2, ↓wp_maxD, ↓wp_srt, ↓wp_glc, ↓wp_rgN, ↓wp_srtD, ↓wp_lc2, ↓wp_i3, ↓wp_iv, ↓mt_pp, ↓mt_ppA, ↓wp_esn, ↓wp_esc, ↓wp_pn, ↓wp_pa, ↓wp_tv, ↓wp_ta, ↓wp_to, ↓wp_tn, ↓wp_lo, ↓wp_ld, ↓wp_lc, ↓wp_tsn, ↓wp_tsc, ↓wp_io, ↓wp_i1, ↓wp_i2, ↓wp_iz, ↓wp_ie, ↓wo_some, ↓wo_none, ↓br_t, ↓br_f, ↓wps_ok, ↓wps_st, ↓wb_add, ↓wb_sub, ↓wb_mulR, ↓wb_mulL, ↓wb_div, ↓wb_mod, ↓wb_pow, ↓wb_addT, ↓wb_mulT, ↓wb_addL, ↓wb_mulLs, ↓wn_neg, ↓wc_eq, ↓wc_ne, ↓wc_lt, ↓wc_le, ↓wc_gt, ↓wc_ge, ↓wc_in, ↓wc_nin, ↓wc_isN, ↓wc_notN, ↓item_int, ↓sl_tup, ↓sl_ref, ↓bi_len, ↓bi_abs, ↓bi_int, ↓bi_intb, ↓bi_isI, ↓bi_max, ↓bi_min, ↓bi_divmod, ↓bi_lcm, ↓bi_gcd, ↓bl_sum, ↓bl_tuple, ↓bl_list, ↓bl_len, ↓bl_max, ↓bl_min, ↓mt_app, ↓mt_ext, ↓mt_ix, ↓setIt_ref, ↓ws_n, ↓ws_c, ↓ws_expr, ↓ws_asg, ↓ws_set, ↓ws_aug, ↓ws_augS, ↓ws_bad, ↓ws_if, ↓ws_for, ↓ws_whl, ↓ws_ret, ↓ws_retN, ↓ws_brk, ↓ws_cont, ↓ws_pass, ↓sq_n, ↓sq_b, ↓sq_c, ↓sq_r, ↓sq_z, ↓fin_ret, ↓fin_next, ↓fin_rz, ↓isTy_cv, ↓isTy_rt, ↓tr_cv, ↓tr_rt, look_z, look_s, rgW_rg, isNon_non, isNon_bl, isNon_int, isNon_str, isNon_tup, isNon_fl, isNon_ref, eqW_int, eqW_bl, tr_non, tr_bl, tr_int, tr_tup, ixN_in, ixN_neg, mtW_ref, seqOf_ref, seqOf_tup, seqOf_fl, seqOf_rt, seqOf_cv, isNon_rt, isNon_cv, isTup_rt, isTup_cv, guOf_rt, guOf_cv, isTy_rt, isTy_cv, cv_eq, rt_eq, asg_rt, asg_cv, asg_var, asg_tup2, asg_tup3, isTy, guOf, isTup, intW, aug_add, aug_sub, augO_a, augO_s, lstAt_z, lstAt_s, lstAt_al, lstAt_e, lstAt_ar, Nat.sub_self, Nat.add_sub_cancel_left, Nat.reduceSubDiff, List.append_assoc, lstAt_set, lstAt_ne, toInts_ints, toInts_nil, toInts_cons, toBls_nil, toBls_cons, Option.map_some, List.set_cons_succ, List.set_cons_zero, List.getElem?_cons_zero, List.getElem?_cons_succ, List.getElem_cons_zero, List.getElem_cons_succ, List.length_cons, List.length_nil, List.length_set, List.length_append, List.length_map, List.nil_append, List.cons_append, List.append_nil, List.set_set, Nat.reduceAdd, Nat.reduceLeDiff, Nat.reduceLT, Nat.reduceSub, true_and, and_true, Bool.not_true, Bool.not_false, decide_true, decide_false, Int.reduceToNat, Int.reducePow, Int.reduceNeg, Int.cast_ofNat_Int, decide_eq_true_eq, Nat.zero_add, Nat.add_zero, Int.toNat_natCast, Int.reduceLT, Int.reduceLE, Int.reduceBNe, Int.reduceEq, Int.natCast_add, Nat.le_refl]
  rw [e, wp_ok]
  try simp -implicitDefEqProofs -dsimp (disch := first | omega | (simp only [List.length_set, List.length_append, List.length_cons, List.length_nil, List.length_map]; omega)) only [↓wp_ok, ↓wp_err, ↓wp_exc, ↓wp_bind, ↓wp_var, ↓wp_cst, ↓wp_bin, ↓wp_neg, ↓wp_cmp, ↓wp_and, ↓wp_or, ↓wp_not, ↓wp_ite, ↓wp_tup, ↓wp_lst, ↓wp_idx, ↓wp_slc, ↓wp_call, ↓wp_bi, ↓wp_bl, ↓wp_mt, ↓wp_mk, ↓wp_lr1, ↓wp_lr2, ↓wp_aa, ↓wp_tr2, ↓wp_maxD, ↓wp_srt, ↓wp_glc, ↓wp_rgN, ↓wp_srtD, ↓wp_lc2, ↓wp_i3, ↓wp_iv, ↓mt_pp, ↓mt_ppA, ↓wp_esn, ↓wp_esc, ↓wp_pn, ↓wp_pa, ↓wp_tv, ↓wp_ta, ↓wp_to, ↓wp_tn, ↓wp_lo, ↓wp_ld, ↓wp_lc, ↓wp_tsn, ↓wp_tsc, ↓wp_io, ↓wp_i1, ↓wp_i2, ↓wp_iz, ↓wp_ie, ↓wo_some, ↓wo_none, ↓br_t, ↓br_f, ↓wps_ok, ↓wps_st, ↓wb_add, ↓wb_sub, ↓wb_mulR, ↓wb_mulL, ↓wb_div, ↓wb_mod, ↓wb_pow, ↓wb_addT, ↓wb_mulT, ↓wb_addL, ↓wb_mulLs, ↓wn_neg, ↓wc_eq, ↓wc_ne, ↓wc_lt, ↓wc_le, ↓wc_gt, ↓wc_ge, ↓wc_in, ↓wc_nin, ↓wc_isN, ↓wc_notN, ↓item_int, ↓sl_tup, ↓sl_ref, ↓bi_len, ↓bi_abs, ↓bi_int, ↓bi_intb, ↓bi_isI, ↓bi_max, ↓bi_min, ↓bi_divmod, ↓bi_lcm, ↓bi_gcd, ↓bl_sum, ↓bl_tuple, ↓bl_list, ↓bl_len, ↓bl_max, ↓bl_min, ↓mt_app, ↓mt_ext, ↓mt_ix, ↓setIt_ref, ↓ws_n, ↓ws_c, ↓ws_expr, ↓ws_asg, ↓ws_set, ↓ws_aug, ↓ws_augS, ↓ws_bad, ↓ws_if, ↓ws_for, ↓ws_whl, ↓ws_ret, ↓ws_retN, ↓ws_brk, ↓ws_cont, ↓ws_pass, ↓sq_n, ↓sq_b, ↓sq_c, ↓sq_r, ↓sq_z, ↓fin_ret, ↓fin_next, ↓fin_rz, ↓isTy_cv, ↓isTy_rt, ↓tr_cv, ↓tr_rt, look_z, look_s, rgW_rg, isNon_non, isNon_bl, isNon_int, isNon_str, isNon_tup, isNon_fl, isNon_ref, eqW_int, eqW_bl, tr_non, tr_bl, tr_int, tr_tup, ixN_in, ixN_neg, mtW_ref, seqOf_ref, seqOf_tup, seqOf_fl, seqOf_rt, seqOf_cv, isNon_rt, isNon_cv, isTup_rt, isTup_cv, guOf_rt, guOf_cv, isTy_rt, isTy_cv, cv_eq, rt_eq, asg_rt, asg_cv, asg_var, asg_tup2, asg_tup3, isTy, guOf, isTup, intW, aug_add, aug_sub, augO_a, augO_s, lstAt_z, lstAt_s, lstAt_al, lstAt_e, lstAt_ar, Nat.sub_self, Nat.add_sub_cancel_left, Nat.reduceSubDiff, List.append_assoc, lstAt_set, lstAt_ne, toInts_ints, toInts_nil, toInts_cons, toBls_nil, toBls_cons, Option.map_some, List.set_cons_succ, List.set_cons_zero, List.getElem?_cons_zero, List.getElem?_cons_succ, List.getElem_cons_zero, List.getElem_cons_succ, List.length_cons, List.length_nil, List.length_set, List.length_append, List.length_map, List.nil_append, List.cons_append, List.append_nil, List.set_set, Nat.reduceAdd, Nat.reduceLeDiff, Nat.reduceLT, Nat.reduceSub, true_and, and_true, Bool.not_true, Bool.not_false, decide_true, decide_false, Int.reduceToNat, Int.reducePow, Int.reduceNeg, Int.cast_ofNat_Int, decide_eq_true_eq, Nat.zero_add, Nat.add_zero, Int.toNat_natCast, Int.reduceLT, Int.reduceLE, Int.reduceBNe, Int.reduceEq, Int.natCast_add, Nat.le_refl]
  rw [tidy_one (Old.refl h) blw_int]
  exact ⟨rfl, rfl⟩
theorem latest_ok {k : Nat} {h : Hw} {hd tn : List Int} {e j : Nat} {o : Option Nat} (C : Cal hd tn) (x : Ls hd tn e j o) : PhiN ds (k + 3) 4 [cv 0 hd tn, .int e, .int j] h = .ok (oW o) h := by
  have l := C.l
  have hS := C.hS
  generalize w1 : W.int (e : Int) = we
  generalize w2 : W.int (j : Int) = wj
  refine wp_run (go_latest_start ?_)
  subst w1
  subst w2
  unfold s_latest_start
  try simp -implicitDefEqProofs -dsimp (disch := first | omega | (simp only [List.length_set, List.length_append, List.length_cons, List.length_nil, List.length_map]; omega)) only [↓wp_ok, ↓wp_err, ↓wp_exc, ↓wp_bind, ↓wp_var, ↓wp_cst, ↓wp_bin, ↓wp_neg, ↓wp_cmp, ↓wp_and, ↓wp_or, ↓wp_not, ↓wp_ite, ↓wp_tup, ↓wp_lst, ↓wp_idx, ↓wp_slc, ↓wp_call, ↓wp_bi, ↓wp_bl, ↓wp_mt, ↓wp_mk, ↓wp_lr1, ↓wp_lr2, ↓wp_aa, ↓wp_tr2, ↓wp_maxD, ↓wp_srt, ↓wp_glc, ↓wp_rgN, ↓wp_srtD, ↓wp_lc2, ↓wp_i3, ↓wp_iv, ↓mt_pp, ↓mt_ppA, ↓wp_esn, ↓wp_esc, ↓wp_pn, ↓wp_pa, ↓wp_tv, ↓wp_ta, ↓wp_to, ↓wp_tn, ↓wp_lo, ↓wp_ld, ↓wp_lc, ↓wp_tsn, ↓wp_tsc, ↓wp_io, ↓wp_i1, ↓wp_i2, ↓wp_iz, ↓wp_ie, ↓wo_some, ↓wo_none, ↓br_t, ↓br_f, ↓wps_ok, ↓wps_st, ↓wb_add, ↓wb_sub, ↓wb_mulR, ↓wb_mulL, ↓wb_div, ↓wb_mod, ↓wb_pow, ↓wb_addT, ↓wb_mulT, ↓wb_addL, ↓wb_mulLs, ↓wn_neg, ↓wc_eq, ↓wc_ne, ↓wc_lt, ↓wc_le, ↓wc_gt, ↓wc_ge, ↓wc_in, ↓wc_nin, ↓wc_isN, ↓wc_notN, ↓item_int, ↓sl_tup, ↓sl_ref, ↓bi_len, ↓bi_abs, ↓bi_int, ↓bi_intb, ↓bi_isI, ↓bi_max, ↓bi_min, ↓bi_divmod, ↓bi_lcm, ↓bi_gcd, ↓bl_sum, ↓bl_tuple, ↓bl_list, ↓bl_len, ↓bl_max, ↓bl_min, ↓mt_app, ↓mt_ext, ↓mt_ix, ↓setIt_ref, ↓ws_n, ↓ws_c, ↓ws_expr, ↓ws_asg, ↓ws_set, ↓ws_aug, ↓ws_augS, ↓ws_bad, ↓ws_if, ↓ws_for, ↓ws_whl, ↓ws_ret, ↓ws_retN, ↓ws_brk, ↓ws_cont, ↓ws_pass, ↓sq_n, ↓sq_b, ↓sq_c, ↓sq_r, ↓sq_z, ↓fin_ret, ↓fin_next, ↓fin_rz, ↓isTy_cv, ↓isTy_rt, ↓tr_cv, ↓tr_rt, look_z, look_s, rgW_rg, isNon_non, isNon_bl, isNon_int, isNon_str, isNon_tup, isNon_fl, isNon_ref, eqW_int, eqW_bl, tr_non, tr_bl, tr_int, tr_tup, ixN_in, ixN_neg, mtW_ref, seqOf_ref, seqOf_tup, seqOf_fl, seqOf_rt, seqOf_cv, isNon_rt, isNon_cv, isTup_rt, isTup_cv, guOf_rt, guOf_cv, isTy_rt, isTy_cv, cv_eq, rt_eq, asg_rt, asg_cv, asg_var, asg_tup2, asg_tup3, isTy, guOf, isTup, intW, aug_add, aug_sub, augO_a, augO_s, lstAt_z, lstAt_s, lstAt_al, lstAt_e, lstAt_ar, Nat.sub_self, Nat.add_sub_cancel_left, Nat.reduceSubDiff, List.append_assoc, lstAt_set, lstAt_ne, toInts_ints, toInts_nil, toInts_cons, toBls_nil, toBls_cons, Option.map_some, List.set_cons_succ, List.set_cons_zero, List.getElem?_cons_zero, List.getElem?_cons_succ, List.getElem_cons_zero, List.getElem_cons_succ, List.length_cons, List.length_nil, List.length_set, List.length_append, List.length_map, List.nil_append, List.cons_append, List.append_nil, List.set_set, Nat.reduceAdd, Nat.reduceLeDiff, Nat.reduceLT, Nat.reduceSub, true_and, and_true, Bool.not_true, Bool.not_false, decide_true, decide_false, Int.reduceToNat, Int.reducePow, Int.reduceNeg, Int.cast_ofNat_Int, decide_eq_true_eq, Nat.zero_add, Nat.add_zero, Int.toNat_natCast, Int.reduceLT, Int.reduceLE, Int.reduceBNe, Int.reduceEq, Int.natCast_add, Nat.le_refl]
  rcases x with ⟨rfl, rfl⟩ | ⟨a, x⟩
  · try simp -implicitDefEqProofs -dsimp (disch := first | omega | (simp only [List.length_set, List.length_append, List.length_cons, List.length_nil, List.length_map]; omega)) only [↓wp_ok, ↓wp_err, ↓wp_exc, ↓wp_bind, ↓wp_var, ↓wp_cst, ↓wp_bin, ↓wp_neg, ↓wp_cmp, ↓wp_and, ↓wp_or, ↓wp_not, ↓wp_ite, ↓wp_tup, ↓wp_lst, ↓wp_idx, ↓wp_slc, ↓wp_call, ↓wp_bi, ↓wp_bl, ↓wp_mt, ↓wp_mk, ↓wp_lr1, ↓wp_lr2, ↓wp_aa, ↓wp_tr2, ↓wp_maxD, ↓wp_srt, ↓wp_glc, ↓wp_rgN, ↓wp_srtD, ↓wp_lc2, ↓wp_i3, ↓wp_iv, ↓mt_pp, ↓mt_ppA, ↓wp_esn, ↓wp_esc, ↓wp_pn, ↓wp_pa, ↓wp_tv, ↓wp_ta, ↓wp_to, ↓wp_tn, ↓wp_lo, ↓wp_ld, ↓wp_lc, ↓wp_tsn, ↓wp_tsc, ↓wp_io, ↓wp_i1, ↓wp_i2, ↓wp_iz, ↓wp_ie, ↓wo_some, ↓wo_none, ↓br_t, ↓br_f, ↓wps_ok, ↓wps_st, ↓wb_add, ↓wb_sub, ↓wb_mulR, ↓wb_mulL, ↓wb_div, ↓wb_mod, ↓wb_pow, ↓wb_addT, ↓wb_mulT, ↓wb_addL, ↓wb_mulLs, ↓wn_neg, ↓wc_eq, ↓wc_ne, ↓wc_lt, ↓wc_le, ↓wc_gt, ↓wc_ge, ↓wc_in, ↓wc_nin, ↓wc_isN, ↓wc_notN, ↓item_int, ↓sl_tup, ↓sl_ref, ↓bi_len, ↓bi_abs, ↓bi_int, ↓bi_intb, ↓bi_isI, ↓bi_max, ↓bi_min, ↓bi_divmod, ↓bi_lcm, ↓bi_gcd, ↓bl_sum, ↓bl_tuple, ↓bl_list, ↓bl_len, ↓bl_max, ↓bl_min, ↓mt_app, ↓mt_ext, ↓mt_ix, ↓setIt_ref, ↓ws_n, ↓ws_c, ↓ws_expr, ↓ws_asg, ↓ws_set, ↓ws_aug, ↓ws_augS, ↓ws_bad, ↓ws_if, ↓ws_for, ↓ws_whl, ↓ws_ret, ↓ws_retN, ↓ws_brk, ↓ws_cont, ↓ws_pass, ↓sq_n, ↓sq_b, ↓sq_c, ↓sq_r, ↓sq_z, ↓fin_ret, ↓fin_next, ↓fin_rz, ↓isTy_cv, ↓isTy_rt, ↓tr_cv, ↓tr_rt, look_z, look_s, rgW_rg, isNon_non, isNon_bl, isNon_int, isNon_str, isNon_tup, isNon_fl, isNon_ref, eqW_int, eqW_bl, tr_non, tr_bl, tr_int, tr_tup, ixN_in, ixN_neg, mtW_ref, seqOf_ref, seqOf_tup, seqOf_fl, seqOf_rt, seqOf_cv, isNon_rt, isNon_cv, isTup_rt, isTup_cv, guOf_rt, guOf_cv, isTy_rt, isTy_cv, cv_eq, rt_eq, asg_rt, asg_cv, asg_var, asg_tup2, asg_tup3, isTy, guOf, isTup, intW, aug_add, aug_sub, augO_a, augO_s, lstAt_z, lstAt_s, lstAt_al, lstAt_e, lstAt_ar, Nat.sub_self, Nat.add_sub_cancel_left, Nat.reduceSubDiff, List.append_assoc, lstAt_set, lstAt_ne, toInts_ints, toInts_nil, toInts_cons, toBls_nil, toBls_cons, Option.map_some, List.set_cons_succ, List.set_cons_zero, List.getElem?_cons_zero, List.getElem?_cons_succ, List.getElem_cons_zero, List.getElem_cons_succ, List.length_cons, List.length_nil, List.length_set, List.length_append, List.length_map, List.nil_append, List.cons_append, List.append_nil, List.set_set, Nat.reduceAdd, Nat.reduceLeDiff, Nat.reduceLT, Nat.reduceSub, true_and, and_true, Bool.not_true, Bool.not_false, decide_true, decide_false, Int.reduceToNat, Int.reducePow, Int.reduceNeg, Int.cast_ofNat_Int, decide_eq_true_eq, Nat.zero_add, Nat.add_zero, Int.toNat_natCast, Int.reduceLT, Int.reduceLE, Int.reduceBNe, Int.reduceEq, Int.natCast_add, Nat.le_refl, Int.natCast_zero]
    rw [tidy_one (Old.refl h) blw_int]
    exact ⟨rfl, rfl⟩
  · have e0 : decide ((j : Int) = 0) = false := decide_eq_false (by omega)
    try simp -implicitDefEqProofs -dsimp (disch := first | omega | (simp only [List.length_set, List.length_append, List.length_cons, List.length_nil, List.length_map]; omega)) only [↓wp_ok, ↓wp_err, ↓wp_exc, ↓wp_bind, ↓wp_var, ↓wp_cst, ↓wp_bin, ↓wp_neg, ↓wp_cmp, ↓wp_and, ↓wp_or, ↓wp_not, ↓wp_ite, ↓wp_tup, ↓wp_lst, ↓wp_idx, ↓wp_slc, ↓wp_call, ↓wp_bi, ↓wp_bl, ↓wp_mt, ↓wp_mk, ↓wp_lr1, ↓wp_lr2, ↓wp_aa, ↓wp_tr2, ↓wp_maxD, ↓wp_srt, ↓wp_glc, ↓wp_rgN, ↓wp_srtD, ↓wp_lc2, ↓wp_i3, ↓wp_iv, ↓mt_pp, ↓mt_ppA, ↓wp_esn, ↓wp_esc, ↓wp_pn, ↓wp_pa, ↓wp_tv, ↓wp_ta, ↓wp_to, ↓wp_tn, ↓wp_lo, ↓wp_ld, ↓wp_lc, ↓wp_tsn, ↓wp_tsc, ↓wp_io, ↓wp_i1, ↓wp_i2, ↓wp_iz, ↓wp_ie, ↓wo_some, ↓wo_none, ↓br_t, ↓br_f, ↓wps_ok, ↓wps_st, ↓wb_add, ↓wb_sub, ↓wb_mulR, ↓wb_mulL, ↓wb_div, ↓wb_mod, ↓wb_pow, ↓wb_addT, ↓wb_mulT, ↓wb_addL, ↓wb_mulLs, ↓wn_neg, ↓wc_eq, ↓wc_ne, ↓wc_lt, ↓wc_le, ↓wc_gt, ↓wc_ge, ↓wc_in, ↓wc_nin, ↓wc_isN, ↓wc_notN, ↓item_int, ↓sl_tup, ↓sl_ref, ↓bi_len, ↓bi_abs, ↓bi_int, ↓bi_intb, ↓bi_isI, ↓bi_max, ↓bi_min, ↓bi_divmod, ↓bi_lcm, ↓bi_gcd, ↓bl_sum, ↓bl_tuple, ↓bl_list, ↓bl_len, ↓bl_max, ↓bl_min, ↓mt_app, ↓mt_ext, ↓mt_ix, ↓setIt_ref, ↓ws_n, ↓ws_c, ↓ws_expr, ↓ws_asg, ↓ws_set, ↓ws_aug, ↓ws_augS, ↓ws_bad, ↓ws_if, ↓ws_for, ↓ws_whl, ↓ws_ret, ↓ws_retN, ↓ws_brk, ↓ws_cont, ↓ws_pass, ↓sq_n, ↓sq_b, ↓sq_c, ↓sq_r, ↓sq_z, ↓fin_ret, ↓fin_next, ↓fin_rz, ↓isTy_cv, ↓isTy_rt, ↓tr_cv, ↓tr_rt, look_z, look_s, rgW_rg, isNon_non, isNon_bl, isNon_int, isNon_str, isNon_tup, isNon_fl, isNon_ref, eqW_int, eqW_bl, tr_non, tr_bl, tr_int, tr_tup, ixN_in, ixN_neg, mtW_ref, seqOf_ref, seqOf_tup, seqOf_fl, seqOf_rt, seqOf_cv, isNon_rt, isNon_cv, isTup_rt, isTup_cv, guOf_rt, guOf_cv, isTy_rt, isTy_cv, cv_eq, rt_eq, asg_rt, asg_cv, asg_var, asg_tup2, asg_tup3, isTy, guOf, isTup, intW, aug_add, aug_sub, augO_a, augO_s, lstAt_z, lstAt_s, lstAt_al, lstAt_e, lstAt_ar, Nat.sub_self, Nat.add_sub_cancel_left, Nat.reduceSubDiff, List.append_assoc, lstAt_set, lstAt_ne, toInts_ints, toInts_nil, toInts_cons, toBls_nil, toBls_cons, Option.map_some, List.set_cons_succ, List.set_cons_zero, List.getElem?_cons_zero, List.getElem?_cons_succ, List.getElem_cons_zero, List.getElem_cons_succ, List.length_cons, List.length_nil, List.length_set, List.length_append, List.length_map, List.nil_append, List.cons_append, List.append_nil, List.set_set, Nat.reduceAdd, Nat.reduceLeDiff, Nat.reduceLT, Nat.reduceSub, true_and, and_true, Bool.not_true, Bool.not_false, decide_true, decide_false, Int.reduceToNat, Int.reducePow, Int.reduceNeg, Int.cast_ofNat_Int, decide_eq_true_eq, Nat.zero_add, Nat.add_zero, Int.toNat_natCast, Int.reduceLT, Int.reduceLE, Int.reduceBNe, Int.reduceEq, Int.natCast_add, Nat.le_refl, e0]
    rw [val_at_nat (by omega) (by omega), wp_ok]
    try simp -implicitDefEqProofs -dsimp (disch := first | omega | (simp only [List.length_set, List.length_append, List.length_cons, List.length_nil, List.length_map]; omega)) only [↓wp_ok, ↓wp_err, ↓wp_exc, ↓wp_bind, ↓wp_var, ↓wp_cst, ↓wp_bin, ↓wp_neg, ↓wp_cmp, ↓wp_and, ↓wp_or, ↓wp_not, ↓wp_ite, ↓wp_tup, ↓wp_lst, ↓wp_idx, ↓wp_slc, ↓wp_call, ↓wp_bi, ↓wp_bl, ↓wp_mt, ↓wp_mk, ↓wp_lr1, ↓wp_lr2, ↓wp_aa, ↓wp_tr2, ↓wp_maxD, ↓wp_srt, ↓wp_glc, ↓wp_rgN, ↓wp_srtD, ↓wp_lc2, ↓wp_i3, ↓wp_iv, ↓mt_pp, ↓mt_ppA, ↓wp_esn, ↓wp_esc, ↓wp_pn, ↓wp_pa, ↓wp_tv, ↓wp_ta, ↓wp_to, ↓wp_tn, ↓wp_lo, ↓wp_ld, ↓wp_lc, ↓wp_tsn, ↓wp_tsc, ↓wp_io, ↓wp_i1, ↓wp_i2, ↓wp_iz, ↓wp_ie, ↓wo_some, ↓wo_none, ↓br_t, ↓br_f, ↓wps_ok, ↓wps_st, ↓wb_add, ↓wb_sub, ↓wb_mulR, ↓wb_mulL, ↓wb_div, ↓wb_mod, ↓wb_pow, ↓wb_addT, ↓wb_mulT, ↓wb_addL, ↓wb_mulLs, ↓wn_neg, ↓wc_eq, ↓wc_ne, ↓wc_lt, ↓wc_le, ↓wc_gt, ↓wc_ge, ↓wc_in, ↓wc_nin, ↓wc_isN, ↓wc_notN, ↓item_int, ↓sl_tup, ↓sl_ref, ↓bi_len, ↓bi_abs, ↓bi_int, ↓bi_intb, ↓bi_isI, ↓bi_max, ↓bi_min, ↓bi_divmod, ↓bi_lcm, ↓bi_gcd, ↓bl_sum, ↓bl_tuple, ↓bl_list, ↓bl_len, ↓bl_max, ↓bl_min, ↓mt_app, ↓mt_ext, ↓mt_ix, ↓setIt_ref, ↓ws_n, ↓ws_c, ↓ws_expr, ↓ws_asg, ↓ws_set, ↓ws_aug, ↓ws_augS, ↓ws_bad, ↓ws_if, ↓ws_for, ↓ws_whl, ↓ws_ret, ↓ws_retN, ↓ws_brk, ↓ws_cont, ↓ws_pass, ↓sq_n, ↓sq_b, ↓sq_c, ↓sq_r, ↓sq_z, ↓fin_ret, ↓fin_next, ↓fin_rz, ↓isTy_cv, ↓isTy_rt, ↓tr_cv, ↓tr_rt, look_z, look_s, rgW_rg, isNon_non, isNon_bl, isNon_int, isNon_str, isNon_tup, isNon_fl, isNon_ref, eqW_int, eqW_bl, tr_non, tr_bl, tr_int, tr_tup, ixN_in, ixN_neg, mtW_ref, seqOf_ref, seqOf_tup, seqOf_fl, seqOf_rt, seqOf_cv, isNon_rt, isNon_cv, isTup_rt, isTup_cv, guOf_rt, guOf_cv, isTy_rt, isTy_cv, cv_eq, rt_eq, asg_rt, asg_cv, asg_var, asg_tup2, asg_tup3, isTy, guOf, isTup, intW, aug_add, aug_sub, augO_a, augO_s, lstAt_z, lstAt_s, lstAt_al, lstAt_e, lstAt_ar, Nat.sub_self, Nat.add_sub_cancel_left, Nat.reduceSubDiff, List.append_assoc, lstAt_set, lstAt_ne, toInts_ints, toInts_nil, toInts_cons, toBls_nil, toBls_cons, Option.map_some, List.set_cons_succ, List.set_cons_zero, List.getElem?_cons_zero, List.getElem?_cons_succ, List.getElem_cons_zero, List.getElem_cons_succ, List.length_cons, List.length_nil, List.length_set, List.length_append, List.length_map, List.nil_append, List.cons_append, List.append_nil, List.set_set, Nat.reduceAdd, Nat.reduceLeDiff, Nat.reduceLT, Nat.reduceSub, true_and, and_true, Bool.not_true, Bool.not_false, decide_true, decide_false, Int.reduceToNat, Int.reducePow, Int.reduceNeg, Int.cast_ofNat_Int, decide_eq_true_eq, Nat.zero_add, Nat.add_zero, Int.toNat_natCast, Int.reduceLT, Int.reduceLE, Int.reduceBNe, Int.reduceEq, Int.natCast_add, Nat.le_refl, Int.zero_add]
    cases o with
    | none =>
      dsimp only at x
      have e1 : decide (psum (stp hd tn) e - (j : Int) < 0) = true := decide_eq_true (by omega)
      try simp -implicitDefEqProofs -dsimp (disch := first | omega | (simp only [List.length_set, List.length_append, List.length_cons, List.length_nil, List.length_map]; omega)) only [↓wp_ok, ↓wp_err, ↓wp_exc, ↓wp_bind, ↓wp_var, ↓wp_cst, ↓wp_bin, ↓wp_neg, ↓wp_cmp, ↓wp_and, ↓wp_or, ↓wp_not, ↓wp_ite, ↓wp_tup, ↓wp_lst, ↓wp_idx, ↓wp_slc, ↓wp_call, ↓wp_bi, ↓wp_bl, ↓wp_mt, ↓wp_mk, ↓wp_lr1, ↓wp_lr2, ↓wp_aa, ↓wp_tr2, ↓wp_maxD, ↓wp_srt, ↓wp_glc, ↓wp_rgN, ↓wp_srtD, ↓wp_lc2, ↓wp_i3, ↓wp_iv, ↓mt_pp, ↓mt_ppA, ↓wp_esn, ↓wp_esc, ↓wp_pn, ↓wp_pa, ↓wp_tv, ↓wp_ta, ↓wp_to, ↓wp_tn, ↓wp_lo, ↓wp_ld, ↓wp_lc, ↓wp_tsn, ↓wp_tsc, ↓wp_io, ↓wp_i1, ↓wp_i2, ↓wp_iz, ↓wp_ie, ↓wo_some, ↓wo_none, ↓br_t, ↓br_f, ↓wps_ok, ↓wps_st, ↓wb_add, ↓wb_sub, ↓wb_mulR, ↓wb_mulL, ↓wb_div, ↓wb_mod, ↓wb_pow, ↓wb_addT, ↓wb_mulT, ↓wb_addL, ↓wb_mulLs, ↓wn_neg, ↓wc_eq, ↓wc_ne, ↓wc_lt, ↓wc_le, ↓wc_gt, ↓wc_ge, ↓wc_in, ↓wc_nin, ↓wc_isN, ↓wc_notN, ↓item_int, ↓sl_tup, ↓sl_ref, ↓bi_len, ↓bi_abs, ↓bi_int, ↓bi_intb, ↓bi_isI, ↓bi_max, ↓bi_min, ↓bi_divmod, ↓bi_lcm, ↓bi_gcd, ↓bl_sum, ↓bl_tuple, ↓bl_list, ↓bl_len, ↓bl_max, ↓bl_min, ↓mt_app, ↓mt_ext, ↓mt_ix, ↓setIt_ref, ↓ws_n, ↓ws_c, ↓ws_expr, ↓ws_asg, ↓ws_set, ↓ws_aug, ↓ws_augS, ↓ws_bad, ↓ws_if, ↓ws_for, ↓ws_whl, ↓ws_ret, ↓ws_retN, ↓ws_brk, ↓ws_cont, ↓ws_pass, ↓sq_n, ↓sq_b, ↓sq_c, ↓sq_r, ↓sq_z, ↓fin_ret, ↓fin_next, ↓fin_rz, ↓isTy_cv, ↓isTy_rt, ↓tr_cv, ↓tr_rt, look_z, look_s, rgW_rg, isNon_non, isNon_bl, isNon_int, isNon_str, isNon_tup, isNon_fl, isNon_ref, eqW_int, eqW_bl, tr_non, tr_bl, tr_int, tr_tup, ixN_in, ixN_neg, mtW_ref, seqOf_ref, seqOf_tup, seqOf_fl, seqOf_rt, seqOf_cv, isNon_rt, isNon_cv, isTup_rt, isTup_cv, guOf_rt, guOf_cv, isTy_rt, isTy_cv, cv_eq, rt_eq, asg_rt, asg_cv, asg_var, asg_tup2, asg_tup3, isTy, guOf, isTup, intW, aug_add, aug_sub, augO_a, augO_s, lstAt_z, lstAt_s, lstAt_al, lstAt_e, lstAt_ar, Nat.sub_self, Nat.add_sub_cancel_left, Nat.reduceSubDiff, List.append_assoc, lstAt_set, lstAt_ne, toInts_ints, toInts_nil, toInts_cons, toBls_nil, toBls_cons, Option.map_some, List.set_cons_succ, List.set_cons_zero, List.getElem?_cons_zero, List.getElem?_cons_succ, List.getElem_cons_zero, List.getElem_cons_succ, List.length_cons, List.length_nil, List.length_set, List.length_append, List.length_map, List.nil_append, List.cons_append, List.append_nil, List.set_set, Nat.reduceAdd, Nat.reduceLeDiff, Nat.reduceLT, Nat.reduceSub, true_and, and_true, Bool.not_true, Bool.not_false, decide_true, decide_false, Int.reduceToNat, Int.reducePow, Int.reduceNeg, Int.cast_ofNat_Int, decide_eq_true_eq, Nat.zero_add, Nat.add_zero, Int.toNat_natCast, Int.reduceLT, Int.reduceLE, Int.reduceBNe, Int.reduceEq, Int.natCast_add, Nat.le_refl, e1]
      rw [tidy_one (Old.refl h) (by unfold W.blw; trivial)]
      exact ⟨rfl, rfl⟩
    | some b =>
      dsimp only at x
      have e1 : decide (psum (stp hd tn) e - (j : Int) < 0) = false := decide_eq_false (by omega)
      try simp -implicitDefEqProofs -dsimp (disch := first | omega | (simp only [List.length_set, List.length_append, List.length_cons, List.length_nil, List.length_map]; omega)) only [↓wp_ok, ↓wp_err, ↓wp_exc, ↓wp_bind, ↓wp_var, ↓wp_cst, ↓wp_bin, ↓wp_neg, ↓wp_cmp, ↓wp_and, ↓wp_or, ↓wp_not, ↓wp_ite, ↓wp_tup, ↓wp_lst, ↓wp_idx, ↓wp_slc, ↓wp_call, ↓wp_bi, ↓wp_bl, ↓wp_mt, ↓wp_mk, ↓wp_lr1, ↓wp_lr2, ↓wp_aa, ↓wp_tr2, ↓wp_maxD, ↓wp_srt, ↓wp_glc, ↓wp_rgN, ↓wp_srtD, ↓wp_lc2, ↓wp_i3, ↓wp_iv, ↓mt_pp, ↓mt_ppA, ↓wp_esn, ↓wp_esc, ↓wp_pn, ↓wp_pa, ↓wp_tv, ↓wp_ta, ↓wp_to, ↓wp_tn, ↓wp_lo, ↓wp_ld, ↓wp_lc, ↓wp_tsn, ↓wp_tsc, ↓wp_io, ↓wp_i1, ↓wp_i2, ↓wp_iz, ↓wp_ie, ↓wo_some, ↓wo_none, ↓br_t, ↓br_f, ↓wps_ok, ↓wps_st, ↓wb_add, ↓wb_sub, ↓wb_mulR, ↓wb_mulL, ↓wb_div, ↓wb_mod, ↓wb_pow, ↓wb_addT, ↓wb_mulT, ↓wb_addL, ↓wb_mulLs, ↓wn_neg, ↓wc_eq, ↓wc_ne, ↓wc_lt, ↓wc_le, ↓wc_gt, ↓wc_ge, ↓wc_in, ↓wc_nin, ↓wc_isN, ↓wc_notN, ↓item_int, ↓sl_tup, ↓sl_ref, ↓bi_len, ↓bi_abs, ↓bi_int, ↓bi_intb, ↓bi_isI, ↓bi_max, ↓bi_min, ↓bi_divmod, ↓bi_lcm, ↓bi_gcd, ↓bl_sum, ↓bl_tuple, ↓bl_list, ↓bl_len, ↓bl_max, ↓bl_min, ↓mt_app, ↓mt_ext, ↓mt_ix, ↓setIt_ref, ↓ws_n, ↓ws_c, ↓ws_expr, ↓ws_asg, ↓ws_set, ↓ws_aug, ↓ws_augS, ↓ws_bad, ↓ws_if, ↓ws_for, ↓ws_whl, ↓ws_ret, ↓ws_retN, ↓ws_brk, ↓ws_cont, ↓ws_pass, ↓sq_n, ↓sq_b, ↓sq_c, ↓sq_r, ↓sq_z, ↓fin_ret, ↓fin_next, ↓fin_rz, ↓isTy_cv, ↓isTy_rt, ↓tr_cv, ↓tr_rt, look_z, look_s, rgW_rg, isNon_non, isNon_bl, isNon_int, isNon_str, isNon_tup, isNon_fl, isNon_ref, eqW_int, eqW_bl, tr_non, tr_bl, tr_int, tr_tup, ixN_in, ixN_neg, mtW_ref, seqOf_ref, seqOf_tup, seqOf_fl, seqOf_rt, seqOf_cv, isNon_rt, isNon_cv, isTup_rt, isTup_cv, guOf_rt, guOf_cv, isTy_rt, isTy_cv, cv_eq, rt_eq, asg_rt, asg_cv, asg_var, asg_tup2, asg_tup3, isTy, guOf, isTup, intW, aug_add, aug_sub, augO_a, augO_s, lstAt_z, lstAt_s, lstAt_al, lstAt_e, lstAt_ar, Nat.sub_self, Nat.add_sub_cancel_left, Nat.reduceSubDiff, List.append_assoc, lstAt_set, lstAt_ne, toInts_ints, toInts_nil, toInts_cons, toBls_nil, toBls_cons, Option.map_some, List.set_cons_succ, List.set_cons_zero, List.getElem?_cons_zero, List.getElem?_cons_succ, List.getElem_cons_zero, List.getElem_cons_succ, List.length_cons, List.length_nil, List.length_set, List.length_append, List.length_map, List.nil_append, List.cons_append, List.append_nil, List.set_set, Nat.reduceAdd, Nat.reduceLeDiff, Nat.reduceLT, Nat.reduceSub, true_and, and_true, Bool.not_true, Bool.not_false, decide_true, decide_false, Int.reduceToNat, Int.reducePow, Int.reduceNeg, Int.cast_ofNat_Int, decide_eq_true_eq, Nat.zero_add, Nat.add_zero, Int.toNat_natCast, Int.reduceLT, Int.reduceLE, Int.reduceBNe, Int.reduceEq, Int.natCast_add, Nat.le_refl, e1]
      rw [great_ok C x.2, wp_ok]
      try simp -implicitDefEqProofs -dsimp (disch := first | omega | (simp only [List.length_set, List.length_append, List.length_cons, List.length_nil, List.length_map]; omega)) only [↓wp_ok, ↓wp_err, ↓wp_exc, ↓wp_bind, ↓wp_var, ↓wp_cst, ↓wp_bin, ↓wp_neg, ↓wp_cmp, ↓wp_and, ↓wp_or, ↓wp_not, ↓wp_ite, ↓wp_tup, ↓wp_lst, ↓wp_idx, ↓wp_slc, ↓wp_call, ↓wp_bi, ↓wp_bl, ↓wp_mt, ↓wp_mk, ↓wp_lr1, ↓wp_lr2, ↓wp_aa, ↓wp_tr2, ↓wp_maxD, ↓wp_srt, ↓wp_glc, ↓wp_rgN, ↓wp_srtD, ↓wp_lc2, ↓wp_i3, ↓wp_iv, ↓mt_pp, ↓mt_ppA, ↓wp_esn, ↓wp_esc, ↓wp_pn, ↓wp_pa, ↓wp_tv, ↓wp_ta, ↓wp_to, ↓wp_tn, ↓wp_lo, ↓wp_ld, ↓wp_lc, ↓wp_tsn, ↓wp_tsc, ↓wp_io, ↓wp_i1, ↓wp_i2, ↓wp_iz, ↓wp_ie, ↓wo_some, ↓wo_none, ↓br_t, ↓br_f, ↓wps_ok, ↓wps_st, ↓wb_add, ↓wb_sub, ↓wb_mulR, ↓wb_mulL, ↓wb_div, ↓wb_mod, ↓wb_pow, ↓wb_addT, ↓wb_mulT, ↓wb_addL, ↓wb_mulLs, ↓wn_neg, ↓wc_eq, ↓wc_ne, ↓wc_lt, ↓wc_le, ↓wc_gt, ↓wc_ge, ↓wc_in, ↓wc_nin, ↓wc_isN, ↓wc_notN, ↓item_int, ↓sl_tup, ↓sl_ref, ↓bi_len, ↓bi_abs, ↓bi_int, ↓bi_intb, ↓bi_isI, ↓bi_max, ↓bi_min, ↓bi_divmod, ↓bi_lcm, ↓bi_gcd, ↓bl_sum, ↓bl_tuple, ↓bl_list, ↓bl_len, ↓bl_max, ↓bl_min, ↓mt_app, ↓mt_ext, ↓mt_ix, ↓setIt_ref, ↓ws_n, ↓ws_c, ↓ws_expr, ↓ws_asg, ↓ws_set, ↓ws_aug, ↓ws_augS, ↓ws_bad, ↓ws_if, ↓ws_for, ↓ws_whl, ↓ws_ret, ↓ws_retN, ↓ws_brk, ↓ws_cont, ↓ws_pass, ↓sq_n, ↓sq_b, ↓sq_c, ↓sq_r, ↓sq_z, ↓fin_ret, ↓fin_next, ↓fin_rz, ↓isTy_cv, ↓isTy_rt, ↓tr_cv, ↓tr_rt, look_z, look_s, rgW_rg, isNon_non, isNon_bl, isNon_int, isNon_str, isNon_tup, isNon_fl, isNon_ref, eqW_int, eqW_bl, tr_non, tr_bl, tr_int, tr_tup, ixN_in, ixN_neg, mtW_ref, seqOf_ref, seqOf_tup, seqOf_fl, seqOf_rt, seqOf_cv, isNon_rt, isNon_cv, isTup_rt, isTup_cv, guOf_rt, guOf_cv, isTy_rt, isTy_cv, cv_eq, rt_eq, asg_rt, asg_cv, asg_var, asg_tup2, asg_tup3, isTy, guOf, isTup, intW, aug_add, aug_sub, augO_a, augO_s, lstAt_z, lstAt_s, lstAt_al, lstAt_e, lstAt_ar, Nat.sub_self, Nat.add_sub_cancel_left, Nat.reduceSubDiff, List.append_assoc, lstAt_set, lstAt_ne, toInts_ints, toInts_nil, toInts_cons, toBls_nil, toBls_cons, Option.map_some, List.set_cons_succ, List.set_cons_zero, List.getElem?_cons_zero, List.getElem?_cons_succ, List.getElem_cons_zero, List.getElem_cons_succ, List.length_cons, List.length_nil, List.length_set, List.length_append, List.length_map, List.nil_append, List.cons_append, List.append_nil, List.set_set, Nat.reduceAdd, Nat.reduceLeDiff, Nat.reduceLT, Nat.reduceSub, true_and, and_true, Bool.not_true, Bool.not_false, decide_true, decide_false, Int.reduceToNat, Int.reducePow, Int.reduceNeg, Int.cast_ofNat_Int, decide_eq_true_eq, Nat.zero_add, Nat.add_zero, Int.toNat_natCast, Int.reduceLT, Int.reduceLE, Int.reduceBNe, Int.reduceEq, Int.natCast_add, Nat.le_refl]
      rw [tidy_one (Old.refl h) blw_int]
      exact ⟨by show W.int _ = W.int _; congr 1; omega, rfl⟩
theorem last_ok {k : Nat} {h : Hw} {hd tn : List Int} {e j : Nat} {o : Option Nat} (C : Cal hd tn) (he : e ≤ 1000000) (x : Ls hd tn e j o) : PhiN ds (k + 2) 13 [cv 0 hd tn, .int e, .int j] h = .ok (oW o) h := by
  have l := C.l
  have hS := C.hS
  generalize w1 : W.int (e : Int) = we
  generalize w2 : W.int (j : Int) = wj
  refine wp_run (go__law_last_start ?_)
  subst w1
  subst w2
  unfold s__law_last_start
  try simp -implicitDefEqProofs -dsimp (disch := first | omega | (simp only [List.length_set, List.length_append, List.length_cons, List.length_nil, List.length_map]; omega)) only [↓wp_ok, ↓wp_err, ↓wp_exc, ↓wp_bind, ↓wp_var, ↓wp_cst, ↓wp_bin, ↓wp_neg, ↓wp_cmp, ↓wp_and, ↓wp_or, ↓wp_not, ↓wp_ite, ↓wp_tup, ↓wp_lst, ↓wp_idx, ↓wp_slc, ↓wp_call, ↓wp_bi, ↓wp_bl, ↓wp_mt, ↓wp_mk, ↓wp_lr1, ↓wp_lr2, ↓wp_aa, ↓wp_tr2, ↓wp_maxD, ↓wp_srt, ↓wp_glc, ↓wp_rgN, ↓wp_srtD, ↓wp_lc2, ↓wp_i3, ↓wp_iv, ↓mt_pp, ↓mt_ppA, ↓wp_esn, ↓wp_esc, ↓wp_pn, ↓wp_pa, ↓wp_tv, ↓wp_ta, ↓wp_to, ↓wp_tn, ↓wp_lo, ↓wp_ld, ↓wp_lc, ↓wp_tsn, ↓wp_tsc, ↓wp_io, ↓wp_i1, ↓wp_i2, ↓wp_iz, ↓wp_ie, ↓wo_some, ↓wo_none, ↓br_t, ↓br_f, ↓wps_ok, ↓wps_st, ↓wb_add, ↓wb_sub, ↓wb_mulR, ↓wb_mulL, ↓wb_div, ↓wb_mod, ↓wb_pow, ↓wb_addT, ↓wb_mulT, ↓wb_addL, ↓wb_mulLs, ↓wn_neg, ↓wc_eq, ↓wc_ne, ↓wc_lt, ↓wc_le, ↓wc_gt, ↓wc_ge, ↓wc_in, ↓wc_nin, ↓wc_isN, ↓wc_notN, ↓item_int, ↓sl_tup, ↓sl_ref, ↓bi_len, ↓bi_abs, ↓bi_int, ↓bi_intb, ↓bi_isI, ↓bi_max, ↓bi_min, ↓bi_divmod, ↓bi_lcm, ↓bi_gcd, ↓bl_sum, ↓bl_tuple, ↓bl_list, ↓bl_len, ↓bl_max, ↓bl_min, ↓mt_app, ↓mt_ext, ↓mt_ix, ↓setIt_ref, ↓ws_n, ↓ws_c, ↓ws_expr, ↓ws_asg, ↓ws_set, ↓ws_aug, ↓ws_augS, ↓ws_bad, ↓ws_if, ↓ws_for, ↓ws_whl, ↓ws_ret, ↓ws_retN, ↓ws_brk, ↓ws_cont, ↓ws_pass, ↓sq_n, ↓sq_b, ↓sq_c, ↓sq_r, ↓sq_z, ↓fin_ret, ↓fin_next, ↓fin_rz, ↓isTy_cv, ↓isTy_rt, ↓tr_cv, ↓tr_rt, look_z, look_s, rgW_rg, isNon_non, isNon_bl, isNon_int, isNon_str, isNon_tup, isNon_fl, isNon_ref, eqW_int, eqW_bl, tr_non, tr_bl, tr_int, tr_tup, ixN_in, ixN_neg, mtW_ref, seqOf_ref, seqOf_tup, seqOf_fl, seqOf_rt, seqOf_cv, isNon_rt, isNon_cv, isTup_rt, isTup_cv, guOf_rt, guOf_cv, isTy_rt, isTy_cv, cv_eq, rt_eq, asg_rt, asg_cv, asg_var, asg_tup2, asg_tup3, isTy, guOf, isTup, intW, aug_add, aug_sub, augO_a, augO_s, lstAt_z, lstAt_s, lstAt_al, lstAt_e, lstAt_ar, Nat.sub_self, Nat.add_sub_cancel_left, Nat.reduceSubDiff, List.append_assoc, lstAt_set, lstAt_ne, toInts_ints, toInts_nil, toInts_cons, toBls_nil, toBls_cons, Option.map_some, List.set_cons_succ, List.set_cons_zero, List.getElem?_cons_zero, List.getElem?_cons_succ, List.getElem_cons_zero, List.getElem_cons_succ, List.length_cons, List.length_nil, List.length_set, List.length_append, List.length_map, List.nil_append, List.cons_append, List.append_nil, List.set_set, Nat.reduceAdd, Nat.reduceLeDiff, Nat.reduceLT, Nat.reduceSub, true_and, and_true, Bool.not_true, Bool.not_false, decide_true, decide_false, Int.reduceToNat, Int.reducePow, Int.reduceNeg, Int.cast_ofNat_Int, decide_eq_true_eq, Nat.zero_add, Nat.add_zero, Int.toNat_natCast, Int.reduceLT, Int.reduceLE, Int.reduceBNe, Int.reduceEq, Int.natCast_add, Nat.le_refl]
  rcases x with ⟨rfl, rfl⟩ | ⟨a, x⟩
  · try simp -implicitDefEqProofs -dsimp (disch := first | omega | (simp only [List.length_set, List.length_append, List.length_cons, List.length_nil, List.length_map]; omega)) only [↓wp_ok, ↓wp_err, ↓wp_exc, ↓wp_bind, ↓wp_var, ↓wp_cst, ↓wp_bin, ↓wp_neg, ↓wp_cmp, ↓wp_and, ↓wp_or, ↓wp_not, ↓wp_ite, ↓wp_tup, ↓wp_lst, ↓wp_idx, ↓wp_slc, ↓wp_call, ↓wp_bi, ↓wp_bl, ↓wp_mt, ↓wp_mk, ↓wp_lr1, ↓wp_lr2, ↓wp_aa, ↓wp_tr2, ↓wp_maxD, ↓wp_srt, ↓wp_glc, ↓wp_rgN, ↓wp_srtD, ↓wp_lc2, ↓wp_i3, ↓wp_iv, ↓mt_pp, ↓mt_ppA, ↓wp_esn, ↓wp_esc, ↓wp_pn, ↓wp_pa, ↓wp_tv, ↓wp_ta, ↓wp_to, ↓wp_tn, ↓wp_lo, ↓wp_ld, ↓wp_lc, ↓wp_tsn, ↓wp_tsc, ↓wp_io, ↓wp_i1, ↓wp_i2, ↓wp_iz, ↓wp_ie, ↓wo_some, ↓wo_none, ↓br_t, ↓br_f, ↓wps_ok, ↓wps_st, ↓wb_add, ↓wb_sub, ↓wb_mulR, ↓wb_mulL, ↓wb_div, ↓wb_mod, ↓wb_pow, ↓wb_addT, ↓wb_mulT, ↓wb_addL, ↓wb_mulLs, ↓wn_neg, ↓wc_eq, ↓wc_ne, ↓wc_lt, ↓wc_le, ↓wc_gt, ↓wc_ge, ↓wc_in, ↓wc_nin, ↓wc_isN, ↓wc_notN, ↓item_int, ↓sl_tup, ↓sl_ref, ↓bi_len, ↓bi_abs, ↓bi_int, ↓bi_intb, ↓bi_isI, ↓bi_max, ↓bi_min, ↓bi_divmod, ↓bi_lcm, ↓bi_gcd, ↓bl_sum, ↓bl_tuple, ↓bl_list, ↓bl_len, ↓bl_max, ↓bl_min, ↓mt_app, ↓mt_ext, ↓mt_ix, ↓setIt_ref, ↓ws_n, ↓ws_c, ↓ws_expr, ↓ws_asg, ↓ws_set, ↓ws_aug, ↓ws_augS, ↓ws_bad, ↓ws_if, ↓ws_for, ↓ws_whl, ↓ws_ret, ↓ws_retN, ↓ws_brk, ↓ws_cont, ↓ws_pass, ↓sq_n, ↓sq_b, ↓sq_c, ↓sq_r, ↓sq_z, ↓fin_ret, ↓fin_next, ↓fin_rz, ↓isTy_cv, ↓isTy_rt, ↓tr_cv, ↓tr_rt, look_z, look_s, rgW_rg, isNon_non, isNon_bl, isNon_int, isNon_str, isNon_tup, isNon_fl, isNon_ref, eqW_int, eqW_bl, tr_non, tr_bl, tr_int, tr_tup, ixN_in, ixN_neg, mtW_ref, seqOf_ref, seqOf_tup, seqOf_fl, seqOf_rt, seqOf_cv, isNon_rt, isNon_cv, isTup_rt, isTup_cv, guOf_rt, guOf_cv, isTy_rt, isTy_cv, cv_eq, rt_eq, asg_rt, asg_cv, asg_var, asg_tup2, asg_tup3, isTy, guOf, isTup, intW, aug_add, aug_sub, augO_a, augO_s, lstAt_z, lstAt_s, lstAt_al, lstAt_e, lstAt_ar, Nat.sub_self, Nat.add_sub_cancel_left, Nat.reduceSubDiff, List.append_assoc, lstAt_set, lstAt_ne, toInts_ints, toInts_nil, toInts_cons, toBls_nil, toBls_cons, Option.map_some, List.set_cons_succ, List.set_cons_zero, List.getElem?_cons_zero, List.getElem?_cons_succ, List.getElem_cons_zero, List.getElem_cons_succ, List.length_cons, List.length_nil, List.length_set, List.length_append, List.length_map, List.nil_append, List.cons_append, List.append_nil, List.set_set, Nat.reduceAdd, Nat.reduceLeDiff, Nat.reduceLT, Nat.reduceSub, true_and, and_true, Bool.not_true, Bool.not_false, decide_true, decide_false, Int.reduceToNat, Int.reducePow, Int.reduceNeg, Int.cast_ofNat_Int, decide_eq_true_eq, Nat.zero_add, Nat.add_zero, Int.toNat_natCast, Int.reduceLT, Int.reduceLE, Int.reduceBNe, Int.reduceEq, Int.natCast_add, Nat.le_refl, Int.natCast_zero]
    rw [tidy_one (Old.refl h) blw_int]
    exact ⟨rfl, rfl⟩
  · have e0 : decide ((j : Int) = 0) = false := decide_eq_false (by omega)
    try simp -implicitDefEqProofs -dsimp (disch := first | omega | (simp only [List.length_set, List.length_append, List.length_cons, List.length_nil, List.length_map]; omega)) only [↓wp_ok, ↓wp_err, ↓wp_exc, ↓wp_bind, ↓wp_var, ↓wp_cst, ↓wp_bin, ↓wp_neg, ↓wp_cmp, ↓wp_and, ↓wp_or, ↓wp_not, ↓wp_ite, ↓wp_tup, ↓wp_lst, ↓wp_idx, ↓wp_slc, ↓wp_call, ↓wp_bi, ↓wp_bl, ↓wp_mt, ↓wp_mk, ↓wp_lr1, ↓wp_lr2, ↓wp_aa, ↓wp_tr2, ↓wp_maxD, ↓wp_srt, ↓wp_glc, ↓wp_rgN, ↓wp_srtD, ↓wp_lc2, ↓wp_i3, ↓wp_iv, ↓mt_pp, ↓mt_ppA, ↓wp_esn, ↓wp_esc, ↓wp_pn, ↓wp_pa, ↓wp_tv, ↓wp_ta, ↓wp_to, ↓wp_tn, ↓wp_lo, ↓wp_ld, ↓wp_lc, ↓wp_tsn, ↓wp_tsc, ↓wp_io, ↓wp_i1, ↓wp_i2, ↓wp_iz, ↓wp_ie, ↓wo_some, ↓wo_none, ↓br_t, ↓br_f, ↓wps_ok, ↓wps_st, ↓wb_add, ↓wb_sub, ↓wb_mulR, ↓wb_mulL, ↓wb_div, ↓wb_mod, ↓wb_pow, ↓wb_addT, ↓wb_mulT, ↓wb_addL, ↓wb_mulLs, ↓wn_neg, ↓wc_eq, ↓wc_ne, ↓wc_lt, ↓wc_le, ↓wc_gt, ↓wc_ge, ↓wc_in, ↓wc_nin, ↓wc_isN, ↓wc_notN, ↓item_int, ↓sl_tup, ↓sl_ref, ↓bi_len, ↓bi_abs, ↓bi_int, ↓bi_intb, ↓bi_isI, ↓bi_max, ↓bi_min, ↓bi_divmod, ↓bi_lcm, ↓bi_gcd, ↓bl_sum, ↓bl_tuple, ↓bl_list, ↓bl_len, ↓bl_max, ↓bl_min, ↓mt_app, ↓mt_ext, ↓mt_ix, ↓setIt_ref, ↓ws_n, ↓ws_c, ↓ws_expr, ↓ws_asg, ↓ws_set, ↓ws_aug, ↓ws_augS, ↓ws_bad, ↓ws_if, ↓ws_for, ↓ws_whl, ↓ws_ret, ↓ws_retN, ↓ws_brk, ↓ws_cont, ↓ws_pass, ↓sq_n, ↓sq_b, ↓sq_c, ↓sq_r, ↓sq_z, ↓fin_ret, ↓fin_next, ↓fin_rz, ↓isTy_cv, ↓isTy_rt, ↓tr_cv, ↓tr_rt, look_z, look_s, rgW_rg, isNon_non, isNon_bl, isNon_int, isNon_str, isNon_tup, isNon_fl, isNon_ref, eqW_int, eqW_bl, tr_non, tr_bl, tr_int, tr_tup, ixN_in, ixN_neg, mtW_ref, seqOf_ref, seqOf_tup, seqOf_fl, seqOf_rt, seqOf_cv, isNon_rt, isNon_cv, isTup_rt, isTup_cv, guOf_rt, guOf_cv, isTy_rt, isTy_cv, cv_eq, rt_eq, asg_rt, asg_cv, asg_var, asg_tup2, asg_tup3, isTy, guOf, isTup, intW, aug_add, aug_sub, augO_a, augO_s, lstAt_z, lstAt_s, lstAt_al, lstAt_e, lstAt_ar, Nat.sub_self, Nat.add_sub_cancel_left, Nat.reduceSubDiff, List.append_assoc, lstAt_set, lstAt_ne, toInts_ints, toInts_nil, toInts_cons, toBls_nil, toBls_cons, Option.map_some, List.set_cons_succ, List.set_cons_zero, List.getElem?_cons_zero, List.getElem?_cons_succ, List.getElem_cons_zero, List.getElem_cons_succ, List.length_cons, List.length_nil, List.length_set, List.length_append, List.length_map, List.nil_append, List.cons_append, List.append_nil, List.set_set, Nat.reduceAdd, Nat.reduceLeDiff, Nat.reduceLT, Nat.reduceSub, true_and, and_true, Bool.not_true, Bool.not_false, decide_true, decide_false, Int.reduceToNat, Int.reducePow, Int.reduceNeg, Int.cast_ofNat_Int, decide_eq_true_eq, Nat.zero_add, Nat.add_zero, Int.toNat_natCast, Int.reduceLT, Int.reduceLE, Int.reduceBNe, Int.reduceEq, Int.natCast_add, Nat.le_refl, e0]
    refine ⟨by omega, ?_⟩
    have en : ((e : Int) - 1 - -1).toNat = e := by omega
    rw [en]
    refine wps_rngd (fun t ρ g => g = h ∧ psum (stp hd tn) e - psum (stp hd tn) (e - t) < j ∧ ∃ x4, ρ = [some (cv 0 hd tn), some (.int e), some (.int j), some (.int (j - (psum (stp hd tn) e - psum (stp hd tn) (e - t)))), x4]) ?_ ⟨rfl, by simp; omega, none, by simp⟩ ?_
    · rintro t ρ g ht ⟨rfl, hlt, x4, rfl⟩
      have e1 : (e : Int) - 1 - (t : Int) = ((e - 1 - t : Nat) : Int) := by omega
      have pe : psum (stp hd tn) (e - t) = psum (stp hd tn) (e - 1 - t) + stp hd tn (e - 1 - t) := by
        rw [show e - t = (e - 1 - t) + 1 by omega]; rfl
      have u := C.u (e - 1 - t)
      have eb : (if stp hd tn (e - 1 - t) = 1 then (1 : Int) else 0) = stp hd tn (e - 1 - t) := by
        by_cases c : stp hd tn (e - 1 - t) = 1
        · rw [if_pos c, c]
        · rw [if_neg c]; omega
      try simp -implicitDefEqProofs -dsimp (disch := first | omega | (simp only [List.length_set, List.length_append, List.length_cons, List.length_nil, List.length_map]; omega)) only [↓wp_ok, ↓wp_err, ↓wp_exc, ↓wp_bind, ↓wp_var, ↓wp_cst, ↓wp_bin, ↓wp_neg, ↓wp_cmp, ↓wp_and, ↓wp_or, ↓wp_not, ↓wp_ite, ↓wp_tup, ↓wp_lst, ↓wp_idx, ↓wp_slc, ↓wp_call, ↓wp_bi, ↓wp_bl, ↓wp_mt, ↓wp_mk, ↓wp_lr1, ↓wp_lr2, ↓wp_aa, ↓wp_tr2, ↓wp_maxD, ↓wp_srt, ↓wp_glc, ↓wp_rgN, ↓wp_srtD, ↓wp_lc2, ↓wp_i3, ↓wp_iv, ↓mt_pp, ↓mt_ppA, ↓wp_esn, ↓wp_esc, ↓wp_pn, ↓wp_pa, ↓wp_tv, ↓wp_ta, ↓wp_to, ↓wp_tn, ↓wp_lo, ↓wp_ld, ↓wp_lc, ↓wp_tsn, ↓wp_tsc, ↓wp_io, ↓wp_i1, ↓wp_i2, ↓wp_iz, ↓wp_ie, ↓wo_some, ↓wo_none, ↓br_t, ↓br_f, ↓wps_ok, ↓wps_st, ↓wb_add, ↓wb_sub, ↓wb_mulR, ↓wb_mulL, ↓wb_div, ↓wb_mod, ↓wb_pow, ↓wb_addT, ↓wb_mulT, ↓wb_addL, ↓wb_mulLs, ↓wn_neg, ↓wc_eq, ↓wc_ne, ↓wc_lt, ↓wc_le, ↓wc_gt, ↓wc_ge, ↓wc_in, ↓wc_nin, ↓wc_isN, ↓wc_notN, ↓item_int, ↓sl_tup, ↓sl_ref, ↓bi_len, ↓bi_abs, ↓bi_int, ↓bi_intb, ↓bi_isI, ↓bi_max, ↓bi_min, ↓bi_divmod, ↓bi_lcm, ↓bi_gcd, ↓bl_sum, ↓bl_tuple, ↓bl_list, ↓bl_len, ↓bl_max, ↓bl_min, ↓mt_app, ↓mt_ext, ↓mt_ix, ↓setIt_ref, ↓ws_n, ↓ws_c, ↓ws_expr, ↓ws_asg, ↓ws_set, ↓ws_aug, ↓ws_augS, ↓ws_bad, ↓ws_if, ↓ws_for, ↓ws_whl, ↓ws_ret, ↓ws_retN, ↓ws_brk, ↓ws_cont, ↓ws_pass, ↓sq_n, ↓sq_b, ↓sq_c, ↓sq_r, ↓sq_z, ↓fin_ret, ↓fin_next, ↓fin_rz, ↓isTy_cv, ↓isTy_rt, ↓tr_cv, ↓tr_rt, look_z, look_s, rgW_rg, isNon_non, isNon_bl, isNon_int, isNon_str, isNon_tup, isNon_fl, isNon_ref, eqW_int, eqW_bl, tr_non, tr_bl, tr_int, tr_tup, ixN_in, ixN_neg, mtW_ref, seqOf_ref, seqOf_tup, seqOf_fl, seqOf_rt, seqOf_cv, isNon_rt, isNon_cv, isTup_rt, isTup_cv, guOf_rt, guOf_cv, isTy_rt, isTy_cv, cv_eq, rt_eq, asg_rt, asg_cv, asg_var, asg_tup2, asg_tup3, isTy, guOf, isTup, intW, aug_add, aug_sub, augO_a, augO_s, lstAt_z, lstAt_s, lstAt_al, lstAt_e, lstAt_ar, Nat.sub_self, Nat.add_sub_cancel_left, Nat.reduceSubDiff, List.append_assoc, lstAt_set, lstAt_ne, toInts_ints, toInts_nil, toInts_cons, toBls_nil, toBls_cons, Option.map_some, List.set_cons_succ, List.set_cons_zero, List.getElem?_cons_zero, List.getElem?_cons_succ, List.getElem_cons_zero, List.getElem_cons_succ, List.length_cons, List.length_nil, List.length_set, List.length_append, List.length_map, List.nil_append, List.cons_append, List.append_nil, List.set_set, Nat.reduceAdd, Nat.reduceLeDiff, Nat.reduceLT, Nat.reduceSub, true_and, and_true, Bool.not_true, Bool.not_false, decide_true, decide_false, Int.reduceToNat, Int.reducePow, Int.reduceNeg, Int.cast_ofNat_Int, decide_eq_true_eq, Nat.zero_add, Nat.add_zero, Int.toNat_natCast, Int.reduceLT, Int.reduceLE, Int.reduceBNe, Int.reduceEq, Nat.le_refl, b__law_last_start_1, e1]
      rw [step_ok (by omega), wp_ok]
      try simp -implicitDefEqProofs -dsimp (disch := first | omega | (simp only [List.length_set, List.length_append, List.length_cons, List.length_nil, List.length_map]; omega)) only [↓wp_ok, ↓wp_err, ↓wp_exc, ↓wp_bind, ↓wp_var, ↓wp_cst, ↓wp_bin, ↓wp_neg, ↓wp_cmp, ↓wp_and, ↓wp_or, ↓wp_not, ↓wp_ite, ↓wp_tup, ↓wp_lst, ↓wp_idx, ↓wp_slc, ↓wp_call, ↓wp_bi, ↓wp_bl, ↓wp_mt, ↓wp_mk, ↓wp_lr1, ↓wp_lr2, ↓wp_aa, ↓wp_tr2, ↓wp_maxD, ↓wp_srt, ↓wp_glc, ↓wp_rgN, ↓wp_srtD, ↓wp_lc2, ↓wp_i3, ↓wp_iv, ↓mt_pp, ↓mt_ppA, ↓wp_esn, ↓wp_esc, ↓wp_pn, ↓wp_pa, ↓wp_tv, ↓wp_ta, ↓wp_to, ↓wp_tn, ↓wp_lo, ↓wp_ld, ↓wp_lc, ↓wp_tsn, ↓wp_tsc, ↓wp_io, ↓wp_i1, ↓wp_i2, ↓wp_iz, ↓wp_ie, ↓wo_some, ↓wo_none, ↓br_t, ↓br_f, ↓wps_ok, ↓wps_st, ↓wb_add, ↓wb_sub, ↓wb_mulR, ↓wb_mulL, ↓wb_div, ↓wb_mod, ↓wb_pow, ↓wb_addT, ↓wb_mulT, ↓wb_addL, ↓wb_mulLs, ↓wn_neg, ↓wc_eq, ↓wc_ne, ↓wc_lt, ↓wc_le, ↓wc_gt, ↓wc_ge, ↓wc_in, ↓wc_nin, ↓wc_isN, ↓wc_notN, ↓item_int, ↓sl_tup, ↓sl_ref, ↓bi_len, ↓bi_abs, ↓bi_int, ↓bi_intb, ↓bi_isI, ↓bi_max, ↓bi_min, ↓bi_divmod, ↓bi_lcm, ↓bi_gcd, ↓bl_sum, ↓bl_tuple, ↓bl_list, ↓bl_len, ↓bl_max, ↓bl_min, ↓mt_app, ↓mt_ext, ↓mt_ix, ↓setIt_ref, ↓ws_n, ↓ws_c, ↓ws_expr, ↓ws_asg, ↓ws_set, ↓ws_aug, ↓ws_augS, ↓ws_bad, ↓ws_if, ↓ws_for, ↓ws_whl, ↓ws_ret, ↓ws_retN, ↓ws_brk, ↓ws_cont, ↓ws_pass, ↓sq_n, ↓sq_b, ↓sq_c, ↓sq_r, ↓sq_z, ↓fin_ret, ↓fin_next, ↓fin_rz, ↓isTy_cv, ↓isTy_rt, ↓tr_cv, ↓tr_rt, look_z, look_s, rgW_rg, isNon_non, isNon_bl, isNon_int, isNon_str, isNon_tup, isNon_fl, isNon_ref, eqW_int, eqW_bl, tr_non, tr_bl, tr_int, tr_tup, ixN_in, ixN_neg, mtW_ref, seqOf_ref, seqOf_tup, seqOf_fl, seqOf_rt, seqOf_cv, isNon_rt, isNon_cv, isTup_rt, isTup_cv, guOf_rt, guOf_cv, isTy_rt, isTy_cv, cv_eq, rt_eq, asg_rt, asg_cv, asg_var, asg_tup2, asg_tup3, isTy, guOf, isTup, intW, aug_add, aug_sub, augO_a, augO_s, lstAt_z, lstAt_s, lstAt_al, lstAt_e, lstAt_ar, Nat.sub_self, Nat.add_sub_cancel_left, Nat.reduceSubDiff, List.append_assoc, lstAt_set, lstAt_ne, toInts_ints, toInts_nil, toInts_cons, toBls_nil, toBls_cons, Option.map_some, List.set_cons_succ, List.set_cons_zero, List.getElem?_cons_zero, List.getElem?_cons_succ, List.getElem_cons_zero, List.getElem_cons_succ, List.length_cons, List.length_nil, List.length_set, List.length_append, List.length_map, List.nil_append, List.cons_append, List.append_nil, List.set_set, Nat.reduceAdd, Nat.reduceLeDiff, Nat.reduceLT, Nat.reduceSub, true_and, and_true, Bool.not_true, Bool.not_false, decide_true, decide_false, Int.reduceToNat, Int.reducePow, Int.reduceNeg, Int.cast_ofNat_Int, decide_eq_true_eq, Nat.zero_add, Nat.add_zero, Int.toNat_natCast, Int.reduceLT, Int.reduceLE, Int.reduceBNe, Int.reduceEq, Nat.le_refl, decide_eq_true_eq, eb]
      refine br_intro (fun hq => ?_) (fun hq => ?_)
      · try simp -implicitDefEqProofs -dsimp (disch := first | omega | (simp only [List.length_set, List.length_append, List.length_cons, List.length_nil, List.length_map]; omega)) only [↓wp_ok, ↓wp_err, ↓wp_exc, ↓wp_bind, ↓wp_var, ↓wp_cst, ↓wp_bin, ↓wp_neg, ↓wp_cmp, ↓wp_and, ↓wp_or, ↓wp_not, ↓wp_ite, ↓wp_tup, ↓wp_lst, ↓wp_idx, ↓wp_slc, ↓wp_call, ↓wp_bi, ↓wp_bl, ↓wp_mt, ↓wp_mk, ↓wp_lr1, ↓wp_lr2, ↓wp_aa, ↓wp_tr2, ↓wp_maxD, ↓wp_srt, ↓wp_glc, ↓wp_rgN, ↓wp_srtD, ↓wp_lc2, ↓wp_i3, ↓wp_iv, ↓mt_pp, ↓mt_ppA, ↓wp_esn, ↓wp_esc, ↓wp_pn, ↓wp_pa, ↓wp_tv, ↓wp_ta, ↓wp_to, ↓wp_tn, ↓wp_lo, ↓wp_ld, ↓wp_lc, ↓wp_tsn, ↓wp_tsc, ↓wp_io, ↓wp_i1, ↓wp_i2, ↓wp_iz, ↓wp_ie, ↓wo_some, ↓wo_none, ↓br_t, ↓br_f, ↓wps_ok, ↓wps_st, ↓wb_add, ↓wb_sub, ↓wb_mulR, ↓wb_mulL, ↓wb_div, ↓wb_mod, ↓wb_pow, ↓wb_addT, ↓wb_mulT, ↓wb_addL, ↓wb_mulLs, ↓wn_neg, ↓wc_eq, ↓wc_ne, ↓wc_lt, ↓wc_le, ↓wc_gt, ↓wc_ge, ↓wc_in, ↓wc_nin, ↓wc_isN, ↓wc_notN, ↓item_int, ↓sl_tup, ↓sl_ref, ↓bi_len, ↓bi_abs, ↓bi_int, ↓bi_intb, ↓bi_isI, ↓bi_max, ↓bi_min, ↓bi_divmod, ↓bi_lcm, ↓bi_gcd, ↓bl_sum, ↓bl_tuple, ↓bl_list, ↓bl_len, ↓bl_max, ↓bl_min, ↓mt_app, ↓mt_ext, ↓mt_ix, ↓setIt_ref, ↓ws_n, ↓ws_c, ↓ws_expr, ↓ws_asg, ↓ws_set, ↓ws_aug, ↓ws_augS, ↓ws_bad, ↓ws_if, ↓ws_for, ↓ws_whl, ↓ws_ret, ↓ws_retN, ↓ws_brk, ↓ws_cont, ↓ws_pass, ↓sq_n, ↓sq_b, ↓sq_c, ↓sq_r, ↓sq_z, ↓fin_ret, ↓fin_next, ↓fin_rz, ↓isTy_cv, ↓isTy_rt, ↓tr_cv, ↓tr_rt, look_z, look_s, rgW_rg, isNon_non, isNon_bl, isNon_int, isNon_str, isNon_tup, isNon_fl, isNon_ref, eqW_int, eqW_bl, tr_non, tr_bl, tr_int, tr_tup, ixN_in, ixN_neg, mtW_ref, seqOf_ref, seqOf_tup, seqOf_fl, seqOf_rt, seqOf_cv, isNon_rt, isNon_cv, isTup_rt, isTup_cv, guOf_rt, guOf_cv, isTy_rt, isTy_cv, cv_eq, rt_eq, asg_rt, asg_cv, asg_var, asg_tup2, asg_tup3, isTy, guOf, isTup, intW, aug_add, aug_sub, augO_a, augO_s, lstAt_z, lstAt_s, lstAt_al, lstAt_e, lstAt_ar, Nat.sub_self, Nat.add_sub_cancel_left, Nat.reduceSubDiff, List.append_assoc, lstAt_set, lstAt_ne, toInts_ints, toInts_nil, toInts_cons, toBls_nil, toBls_cons, Option.map_some, List.set_cons_succ, List.set_cons_zero, List.getElem?_cons_zero, List.getElem?_cons_succ, List.getElem_cons_zero, List.getElem_cons_succ, List.length_cons, List.length_nil, List.length_set, List.length_append, List.length_map, List.nil_append, List.cons_append, List.append_nil, List.set_set, Nat.reduceAdd, Nat.reduceLeDiff, Nat.reduceLT, Nat.reduceSub, true_and, and_true, Bool.not_true, Bool.not_false, decide_true, decide_false, Int.reduceToNat, Int.reducePow, Int.reduceNeg, Int.cast_ofNat_Int, decide_eq_true_eq, Nat.zero_add, Nat.add_zero, Int.toNat_natCast, Int.reduceLT, Int.reduceLE, Int.reduceBNe, Int.reduceEq, Nat.le_refl]
        rw [tidy_one (Old.refl g) blw_int]
        have Lt : Ls hd tn e j (some (e - 1 - t)) := by
          refine .inr ⟨a, ?_, Least.succ C.hu ?_ ?_⟩
          · have := psum_nn C.hu (e - 1 - t); omega
          · rw [show e - 1 - t + 1 = e - t by omega]; omega
          · omega
        have : o = some (e - 1 - t) := Ls.unique (.inr ⟨a, x⟩) Lt
        rw [this]
        exact ⟨rfl, rfl⟩
      · try simp -implicitDefEqProofs -dsimp (disch := first | omega | (simp only [List.length_set, List.length_append, List.length_cons, List.length_nil, List.length_map]; omega)) only [↓wp_ok, ↓wp_err, ↓wp_exc, ↓wp_bind, ↓wp_var, ↓wp_cst, ↓wp_bin, ↓wp_neg, ↓wp_cmp, ↓wp_and, ↓wp_or, ↓wp_not, ↓wp_ite, ↓wp_tup, ↓wp_lst, ↓wp_idx, ↓wp_slc, ↓wp_call, ↓wp_bi, ↓wp_bl, ↓wp_mt, ↓wp_mk, ↓wp_lr1, ↓wp_lr2, ↓wp_aa, ↓wp_tr2, ↓wp_maxD, ↓wp_srt, ↓wp_glc, ↓wp_rgN, ↓wp_srtD, ↓wp_lc2, ↓wp_i3, ↓wp_iv, ↓mt_pp, ↓mt_ppA, ↓wp_esn, ↓wp_esc, ↓wp_pn, ↓wp_pa, ↓wp_tv, ↓wp_ta, ↓wp_to, ↓wp_tn, ↓wp_lo, ↓wp_ld, ↓wp_lc, ↓wp_tsn, ↓wp_tsc, ↓wp_io, ↓wp_i1, ↓wp_i2, ↓wp_iz, ↓wp_ie, ↓wo_some, ↓wo_none, ↓br_t, ↓br_f, ↓wps_ok, ↓wps_st, ↓wb_add, ↓wb_sub, ↓wb_mulR, ↓wb_mulL, ↓wb_div, ↓wb_mod, ↓wb_pow, ↓wb_addT, ↓wb_mulT, ↓wb_addL, ↓wb_mulLs, ↓wn_neg, ↓wc_eq, ↓wc_ne, ↓wc_lt, ↓wc_le, ↓wc_gt, ↓wc_ge, ↓wc_in, ↓wc_nin, ↓wc_isN, ↓wc_notN, ↓item_int, ↓sl_tup, ↓sl_ref, ↓bi_len, ↓bi_abs, ↓bi_int, ↓bi_intb, ↓bi_isI, ↓bi_max, ↓bi_min, ↓bi_divmod, ↓bi_lcm, ↓bi_gcd, ↓bl_sum, ↓bl_tuple, ↓bl_list, ↓bl_len, ↓bl_max, ↓bl_min, ↓mt_app, ↓mt_ext, ↓mt_ix, ↓setIt_ref, ↓ws_n, ↓ws_c, ↓ws_expr, ↓ws_asg, ↓ws_set, ↓ws_aug, ↓ws_augS, ↓ws_bad, ↓ws_if, ↓ws_for, ↓ws_whl, ↓ws_ret, ↓ws_retN, ↓ws_brk, ↓ws_cont, ↓ws_pass, ↓sq_n, ↓sq_b, ↓sq_c, ↓sq_r, ↓sq_z, ↓fin_ret, ↓fin_next, ↓fin_rz, ↓isTy_cv, ↓isTy_rt, ↓tr_cv, ↓tr_rt, look_z, look_s, rgW_rg, isNon_non, isNon_bl, isNon_int, isNon_str, isNon_tup, isNon_fl, isNon_ref, eqW_int, eqW_bl, tr_non, tr_bl, tr_int, tr_tup, ixN_in, ixN_neg, mtW_ref, seqOf_ref, seqOf_tup, seqOf_fl, seqOf_rt, seqOf_cv, isNon_rt, isNon_cv, isTup_rt, isTup_cv, guOf_rt, guOf_cv, isTy_rt, isTy_cv, cv_eq, rt_eq, asg_rt, asg_cv, asg_var, asg_tup2, asg_tup3, isTy, guOf, isTup, intW, aug_add, aug_sub, augO_a, augO_s, lstAt_z, lstAt_s, lstAt_al, lstAt_e, lstAt_ar, Nat.sub_self, Nat.add_sub_cancel_left, Nat.reduceSubDiff, List.append_assoc, lstAt_set, lstAt_ne, toInts_ints, toInts_nil, toInts_cons, toBls_nil, toBls_cons, Option.map_some, List.set_cons_succ, List.set_cons_zero, List.getElem?_cons_zero, List.getElem?_cons_succ, List.getElem_cons_zero, List.getElem_cons_succ, List.length_cons, List.length_nil, List.length_set, List.length_append, List.length_map, List.nil_append, List.cons_append, List.append_nil, List.set_set, Nat.reduceAdd, Nat.reduceLeDiff, Nat.reduceLT, Nat.reduceSub, true_and, and_true, Bool.not_true, Bool.not_false, decide_true, decide_false, Int.reduceToNat, Int.reducePow, Int.reduceNeg, Int.cast_ofNat_Int, decide_eq_true_eq, Nat.zero_add, Nat.add_zero, Int.toNat_natCast, Int.reduceLT, Int.reduceLE, Int.reduceBNe, Int.reduceEq, Nat.le_refl]
        refine ⟨?_, some (.int ((e - 1 - t : Nat) : Int)), ?_⟩
        · rw [show e - (t + 1) = e - 1 - t by omega]; omega
        · rw [show e - (t + 1) = e - 1 - t by omega, show (j : Int) - (psum (stp hd tn) e - psum (stp hd tn) (e - 1 - t)) = j - (psum (stp hd tn) e - psum (stp hd tn) (e - t)) - stp hd tn (e - 1 - t) from by omega]
    · rintro ρ g ⟨rfl, hlt, x4, rfl⟩
      rw [Nat.sub_self] at hlt
      have z0 : psum (stp hd tn) 0 = 0 := rfl
      have : o = none := Ls.unique (.inr ⟨a, x⟩) (.inr ⟨a, by dsimp only; omega⟩)
      subst this
      try simp -implicitDefEqProofs -dsimp (disch := first | omega | (simp only [List.length_set, List.length_append, List.length_cons, List.length_nil, List.length_map]; omega)) only [↓wp_ok, ↓wp_err, ↓wp_exc, ↓wp_bind, ↓wp_var, ↓wp_cst, ↓wp_bin, ↓wp_neg, ↓wp_cmp, ↓wp_and, ↓wp_or, ↓wp_not, ↓wp_ite, ↓wp_tup, ↓wp_lst, ↓wp_idx, ↓wp_slc, ↓wp_call, ↓wp_bi, ↓wp_bl, ↓wp_mt, ↓wp_mk, ↓wp_lr1, ↓wp_lr2, ↓wp_aa, ↓wp_tr2, ↓wp_maxD, ↓wp_srt, ↓wp_glc, ↓wp_rgN, ↓wp_srtD, ↓wp_lc2, ↓wp_i3, ↓wp_iv, ↓mt_pp, ↓mt_ppA, ↓wp_esn, ↓wp_esc, ↓wp_pn, ↓wp_pa, ↓wp_tv, ↓wp_ta, ↓wp_to, ↓wp_tn, ↓wp_lo, ↓wp_ld, ↓wp_lc, ↓wp_tsn, ↓wp_tsc, ↓wp_io, ↓wp_i1, ↓wp_i2, ↓wp_iz, ↓wp_ie, ↓wo_some, ↓wo_none, ↓br_t, ↓br_f, ↓wps_ok, ↓wps_st, ↓wb_add, ↓wb_sub, ↓wb_mulR, ↓wb_mulL, ↓wb_div, ↓wb_mod, ↓wb_pow, ↓wb_addT, ↓wb_mulT, ↓wb_addL, ↓wb_mulLs, ↓wn_neg, ↓wc_eq, ↓wc_ne, ↓wc_lt, ↓wc_le, ↓wc_gt, ↓wc_ge, ↓wc_in, ↓wc_nin, ↓wc_isN, ↓wc_notN, ↓item_int, ↓sl_tup, ↓sl_ref, ↓bi_len, ↓bi_abs, ↓bi_int, ↓bi_intb, ↓bi_isI, ↓bi_max, ↓bi_min, ↓bi_divmod, ↓bi_lcm, ↓bi_gcd, ↓bl_sum, ↓bl_tuple, ↓bl_list, ↓bl_len, ↓bl_max, ↓bl_min, ↓mt_app, ↓mt_ext, ↓mt_ix, ↓setIt_ref, ↓ws_n, ↓ws_c, ↓ws_expr, ↓ws_asg, ↓ws_set, ↓ws_aug, ↓ws_augS, ↓ws_bad, ↓ws_if, ↓ws_for, ↓ws_whl, ↓ws_ret, ↓ws_retN, ↓ws_brk, ↓ws_cont, ↓ws_pass, ↓sq_n, ↓sq_b, ↓sq_c, ↓sq_r, ↓sq_z, ↓fin_ret, ↓fin_next, ↓fin_rz, ↓isTy_cv, ↓isTy_rt, ↓tr_cv, ↓tr_rt, look_z, look_s, rgW_rg, isNon_non, isNon_bl, isNon_int, isNon_str, isNon_tup, isNon_fl, isNon_ref, eqW_int, eqW_bl, tr_non, tr_bl, tr_int, tr_tup, ixN_in, ixN_neg, mtW_ref, seqOf_ref, seqOf_tup, seqOf_fl, seqOf_rt, seqOf_cv, isNon_rt, isNon_cv, isTup_rt, isTup_cv, guOf_rt, guOf_cv, isTy_rt, isTy_cv, cv_eq, rt_eq, asg_rt, asg_cv, asg_var, asg_tup2, asg_tup3, isTy, guOf, isTup, intW, aug_add, aug_sub, augO_a, augO_s, lstAt_z, lstAt_s, lstAt_al, lstAt_e, lstAt_ar, Nat.sub_self, Nat.add_sub_cancel_left, Nat.reduceSubDiff, List.append_assoc, lstAt_set, lstAt_ne, toInts_ints, toInts_nil, toInts_cons, toBls_nil, toBls_cons, Option.map_some, List.set_cons_succ, List.set_cons_zero, List.getElem?_cons_zero, List.getElem?_cons_succ, List.getElem_cons_zero, List.getElem_cons_succ, List.length_cons, List.length_nil, List.length_set, List.length_append, List.length_map, List.nil_append, List.cons_append, List.append_nil, List.set_set, Nat.reduceAdd, Nat.reduceLeDiff, Nat.reduceLT, Nat.reduceSub, true_and, and_true, Bool.not_true, Bool.not_false, decide_true, decide_false, Int.reduceToNat, Int.reducePow, Int.reduceNeg, Int.cast_ofNat_Int, decide_eq_true_eq, Nat.zero_add, Nat.add_zero, Int.toNat_natCast, Int.reduceLT, Int.reduceLE, Int.reduceBNe, Int.reduceEq, Int.natCast_add, Nat.le_refl]
      rw [tidy_one (Old.refl g) (by unfold W.blw; trivial)]
      exact ⟨rfl, rfl⟩
end Law

namespace Law
open PySem Ev
theorem wk_ge {hd tn : List Int} {b k n : Nat} (C : Cal hd tn) (w : Wk hd tn b k n) : b ≤ n := by
  have e := w.at C
  by_cases c : b ≤ n
  · exact c
  · have m := psum_mono C.hu (show n ≤ b by omega)
    rcases w with ⟨_, rfl⟩ | ⟨a, w⟩
    · omega
    · omega
/-- the hours elapsed from s on -/
def els (N : Nat → Nat) (m : Nat) : List Int := (List.range m).map fun s => (N s : Int) - s
theorem foldmax {l : List Int} {a : Int} : l.foldl (fun m y => if y > m then y else m) a = l.foldl max a := by
  induction l generalizing a with
  | nil => rfl
  | cons x l ih =>
    simp only [List.foldl_cons]
    rw [ih]
    congr 1
    by_cases c : x > a
    · rw [if_pos c]; omega
    · rw [if_neg c]; omega
theorem maxL_fold {l : List Int} (hl : l ≠ []) (h0 : ∀ x ∈ l, 0 ≤ x) : maxL l = l.foldl max 0 := by
  cases l with
  | nil => exact absurd rfl hl
  | cons x l =>
    show l.foldl (fun m y => if y > m then y else m) x = _
    rw [foldmax, List.foldl_cons]
    congr 1
    have := h0 x (by simp)
    omega
theorem elapsed_ok {k : Nat} {h : Hw} {hd tn : List Int} {j : Nat} {N : Nat → Nat} (C : Cal hd tn) (hN : ∀ s, Wk hd tn s j (N s)) : PhiN ds (k + 3) 5 [cv 0 hd tn, .int j] h = .ok (.int ((els N (hd.length + tn.length)).foldl max 0)) h := by
  have l := C.l
  refine wp_run (go_greatest_elapsed ?_)
  generalize w2 : W.int (j : Int) = wj
  unfold s_greatest_elapsed
  try simp -implicitDefEqProofs -dsimp (disch := first | omega | (simp only [List.length_set, List.length_append, List.length_cons, List.length_nil, List.length_map]; omega)) only [↓wp_ok, ↓wp_err, ↓wp_exc, ↓wp_bind, ↓wp_var, ↓wp_cst, ↓wp_bin, ↓wp_neg, ↓wp_cmp, ↓wp_and, ↓wp_or, ↓wp_not, ↓wp_ite, ↓wp_tup, ↓wp_lst, ↓wp_idx, ↓wp_slc, ↓wp_call, ↓wp_bi, ↓wp_bl, ↓wp_mt, ↓wp_mk, ↓wp_lr1, ↓wp_lr2, ↓wp_aa, ↓wp_tr2, ↓wp_maxD, ↓wp_srt, ↓wp_glc, ↓wp_rgN, ↓wp_srtD, ↓wp_lc2, ↓wp_i3, ↓wp_iv, ↓mt_pp, ↓mt_ppA, ↓wp_esn, ↓wp_esc, ↓wp_pn, ↓wp_pa, ↓wp_tv, ↓wp_ta, ↓wp_to, ↓wp_tn, ↓wp_lo, ↓wp_ld, ↓wp_lc, ↓wp_tsn, ↓wp_tsc, ↓wp_io, ↓wp_i1, ↓wp_i2, ↓wp_iz, ↓wp_ie, ↓wo_some, ↓wo_none, ↓br_t, ↓br_f, ↓wps_ok, ↓wps_st, ↓wb_add, ↓wb_sub, ↓wb_mulR, ↓wb_mulL, ↓wb_div, ↓wb_mod, ↓wb_pow, ↓wb_addT, ↓wb_mulT, ↓wb_addL, ↓wb_mulLs, ↓wn_neg, ↓wc_eq, ↓wc_ne, ↓wc_lt, ↓wc_le, ↓wc_gt, ↓wc_ge, ↓wc_in, ↓wc_nin, ↓wc_isN, ↓wc_notN, ↓item_int, ↓sl_tup, ↓sl_ref, ↓bi_len, ↓bi_abs, ↓bi_int, ↓bi_intb, ↓bi_isI, ↓bi_max, ↓bi_min, ↓bi_divmod, ↓bi_lcm, ↓bi_gcd, ↓bl_sum, ↓bl_tuple, ↓bl_list, ↓bl_len, ↓bl_max, ↓bl_min, ↓mt_app, ↓mt_ext, ↓mt_ix, ↓setIt_ref, ↓ws_n, ↓ws_c, ↓ws_expr, ↓ws_asg, ↓ws_set, ↓ws_aug, ↓ws_augS, ↓ws_bad, ↓ws_if, ↓ws_for, ↓ws_whl, ↓ws_ret, ↓ws_retN, ↓ws_brk, ↓ws_cont, ↓ws_pass, ↓sq_n, ↓sq_b, ↓sq_c, ↓sq_r, ↓sq_z, ↓fin_ret, ↓fin_next, ↓fin_rz, ↓isTy_cv, ↓isTy_rt, ↓tr_cv, ↓tr_rt, look_z, look_s, rgW_rg, isNon_non, isNon_bl, isNon_int, isNon_str, isNon_tup, isNon_fl, isNon_ref, eqW_int, eqW_bl, tr_non, tr_bl, tr_int, tr_tup, ixN_in, ixN_neg, mtW_ref, seqOf_ref, seqOf_tup, seqOf_fl, seqOf_rt, seqOf_cv, isNon_rt, isNon_cv, isTup_rt, isTup_cv, guOf_rt, guOf_cv, isTy_rt, isTy_cv, cv_eq, rt_eq, asg_rt, asg_cv, asg_var, asg_tup2, asg_tup3, isTy, guOf, isTup, intW, aug_add, aug_sub, augO_a, augO_s, lstAt_z, lstAt_s, lstAt_al, lstAt_e, lstAt_ar, Nat.sub_self, Nat.add_sub_cancel_left, Nat.reduceSubDiff, List.append_assoc, lstAt_set, lstAt_ne, toInts_ints, toInts_nil, toInts_cons, toBls_nil, toBls_cons, Option.map_some, List.set_cons_succ, List.set_cons_zero, List.getElem?_cons_zero, List.getElem?_cons_succ, List.getElem_cons_zero, List.getElem_cons_succ, List.length_cons, List.length_nil, List.length_set, List.length_append, List.length_map, List.nil_append, List.cons_append, List.append_nil, List.set_set, Nat.reduceAdd, Nat.reduceLeDiff, Nat.reduceLT, Nat.reduceSub, true_and, and_true, Bool.not_true, Bool.not_false, decide_true, decide_false, Int.reduceToNat, Int.reducePow, Int.reduceNeg, Int.cast_ofNat_Int, decide_eq_true_eq, Nat.zero_add, Nat.add_zero, Int.toNat_natCast, Int.reduceLT, Int.reduceLE, Int.reduceBNe, Int.reduceEq, Int.natCast_add, Nat.le_refl]
  refine ⟨by omega, ?_⟩
  have en : ((hd.length : Int) + (tn.length : Int) - 0).toNat = hd.length + tn.length := by omega
  rw [en]
  refine wp_compR (fun i g acc => g = h ∧ acc = (els N i).map W.int) ?_ ⟨rfl, rfl⟩ ?_
  · rintro i g acc hi ⟨rfl, rfl⟩
    have e1 : (0 : Int) + (i : Int) = ((i : Nat) : Int) := by omega
    subst w2
    try simp -implicitDefEqProofs -dsimp (disch := first | omega | (simp only [List.length_set, List.length_append, List.length_cons, List.length_nil, List.length_map]; omega)) only [↓wp_ok, ↓wp_err, ↓wp_exc, ↓wp_bind, ↓wp_var, ↓wp_cst, ↓wp_bin, ↓wp_neg, ↓wp_cmp, ↓wp_and, ↓wp_or, ↓wp_not, ↓wp_ite, ↓wp_tup, ↓wp_lst, ↓wp_idx, ↓wp_slc, ↓wp_call, ↓wp_bi, ↓wp_bl, ↓wp_mt, ↓wp_mk, ↓wp_lr1, ↓wp_lr2, ↓wp_aa, ↓wp_tr2, ↓wp_maxD, ↓wp_srt, ↓wp_glc, ↓wp_rgN, ↓wp_srtD, ↓wp_lc2, ↓wp_i3, ↓wp_iv, ↓mt_pp, ↓mt_ppA, ↓wp_esn, ↓wp_esc, ↓wp_pn, ↓wp_pa, ↓wp_tv, ↓wp_ta, ↓wp_to, ↓wp_tn, ↓wp_lo, ↓wp_ld, ↓wp_lc, ↓wp_tsn, ↓wp_tsc, ↓wp_io, ↓wp_i1, ↓wp_i2, ↓wp_iz, ↓wp_ie, ↓wo_some, ↓wo_none, ↓br_t, ↓br_f, ↓wps_ok, ↓wps_st, ↓wb_add, ↓wb_sub, ↓wb_mulR, ↓wb_mulL, ↓wb_div, ↓wb_mod, ↓wb_pow, ↓wb_addT, ↓wb_mulT, ↓wb_addL, ↓wb_mulLs, ↓wn_neg, ↓wc_eq, ↓wc_ne, ↓wc_lt, ↓wc_le, ↓wc_gt, ↓wc_ge, ↓wc_in, ↓wc_nin, ↓wc_isN, ↓wc_notN, ↓item_int, ↓sl_tup, ↓sl_ref, ↓bi_len, ↓bi_abs, ↓bi_int, ↓bi_intb, ↓bi_isI, ↓bi_max, ↓bi_min, ↓bi_divmod, ↓bi_lcm, ↓bi_gcd, ↓bl_sum, ↓bl_tuple, ↓bl_list, ↓bl_len, ↓bl_max, ↓bl_min, ↓mt_app, ↓mt_ext, ↓mt_ix, ↓setIt_ref, ↓ws_n, ↓ws_c, ↓ws_expr, ↓ws_asg, ↓ws_set, ↓ws_aug, ↓ws_augS, ↓ws_bad, ↓ws_if, ↓ws_for, ↓ws_whl, ↓ws_ret, ↓ws_retN, ↓ws_brk, ↓ws_cont, ↓ws_pass, ↓sq_n, ↓sq_b, ↓sq_c, ↓sq_r, ↓sq_z, ↓fin_ret, ↓fin_next, ↓fin_rz, ↓isTy_cv, ↓isTy_rt, ↓tr_cv, ↓tr_rt, look_z, look_s, rgW_rg, isNon_non, isNon_bl, isNon_int, isNon_str, isNon_tup, isNon_fl, isNon_ref, eqW_int, eqW_bl, tr_non, tr_bl, tr_int, tr_tup, ixN_in, ixN_neg, mtW_ref, seqOf_ref, seqOf_tup, seqOf_fl, seqOf_rt, seqOf_cv, isNon_rt, isNon_cv, isTup_rt, isTup_cv, guOf_rt, guOf_cv, isTy_rt, isTy_cv, cv_eq, rt_eq, asg_rt, asg_cv, asg_var, asg_tup2, asg_tup3, isTy, guOf, isTup, intW, aug_add, aug_sub, augO_a, augO_s, lstAt_z, lstAt_s, lstAt_al, lstAt_e, lstAt_ar, Nat.sub_self, Nat.add_sub_cancel_left, Nat.reduceSubDiff, List.append_assoc, lstAt_set, lstAt_ne, toInts_ints, toInts_nil, toInts_cons, toBls_nil, toBls_cons, Option.map_some, List.set_cons_succ, List.set_cons_zero, List.getElem?_cons_zero, List.getElem?_cons_succ, List.getElem_cons_zero, List.getElem_cons_succ, List.length_cons, List.length_nil, List.length_set, List.length_append, List.length_map, List.nil_append, List.cons_append, List.append_nil, List.set_set, Nat.reduceAdd, Nat.reduceLeDiff, Nat.reduceLT, Nat.reduceSub, true_and, and_true, Bool.not_true, Bool.not_false, decide_true, decide_false, Int.reduceToNat, Int.reducePow, Int.reduceNeg, Int.cast_ofNat_Int, decide_eq_true_eq, Nat.zero_add, Nat.add_zero, Int.toNat_natCast, Int.reduceLT, Int.reduceLE, Int.reduceBNe, Int.reduceEq, Int.natCast_add, Nat.le_refl, wipe, c_greatest_elapsed_1, e1]
    rw [finish_ok C (hN i), wp_ok]
    try simp -implicitDefEqProofs -dsimp (disch := first | omega | (simp only [List.length_set, List.length_append, List.length_cons, List.length_nil, List.length_map]; omega)) only [↓wp_ok, ↓wp_err, ↓wp_exc, ↓wp_bind, ↓wp_var, ↓wp_cst, ↓wp_bin, ↓wp_neg, ↓wp_cmp, ↓wp_and, ↓wp_or, ↓wp_not, ↓wp_ite, ↓wp_tup, ↓wp_lst, ↓wp_idx, ↓wp_slc, ↓wp_call, ↓wp_bi, ↓wp_bl, ↓wp_mt, ↓wp_mk, ↓wp_lr1, ↓wp_lr2, ↓wp_aa, ↓wp_tr2, ↓wp_maxD, ↓wp_srt, ↓wp_glc, ↓wp_rgN, ↓wp_srtD, ↓wp_lc2, ↓wp_i3, ↓wp_iv, ↓mt_pp, ↓mt_ppA, ↓wp_esn, ↓wp_esc, ↓wp_pn, ↓wp_pa, ↓wp_tv, ↓wp_ta, ↓wp_to, ↓wp_tn, ↓wp_lo, ↓wp_ld, ↓wp_lc, ↓wp_tsn, ↓wp_tsc, ↓wp_io, ↓wp_i1, ↓wp_i2, ↓wp_iz, ↓wp_ie, ↓wo_some, ↓wo_none, ↓br_t, ↓br_f, ↓wps_ok, ↓wps_st, ↓wb_add, ↓wb_sub, ↓wb_mulR, ↓wb_mulL, ↓wb_div, ↓wb_mod, ↓wb_pow, ↓wb_addT, ↓wb_mulT, ↓wb_addL, ↓wb_mulLs, ↓wn_neg, ↓wc_eq, ↓wc_ne, ↓wc_lt, ↓wc_le, ↓wc_gt, ↓wc_ge, ↓wc_in, ↓wc_nin, ↓wc_isN, ↓wc_notN, ↓item_int, ↓sl_tup, ↓sl_ref, ↓bi_len, ↓bi_abs, ↓bi_int, ↓bi_intb, ↓bi_isI, ↓bi_max, ↓bi_min, ↓bi_divmod, ↓bi_lcm, ↓bi_gcd, ↓bl_sum, ↓bl_tuple, ↓bl_list, ↓bl_len, ↓bl_max, ↓bl_min, ↓mt_app, ↓mt_ext, ↓mt_ix, ↓setIt_ref, ↓ws_n, ↓ws_c, ↓ws_expr, ↓ws_asg, ↓ws_set, ↓ws_aug, ↓ws_augS, ↓ws_bad, ↓ws_if, ↓ws_for, ↓ws_whl, ↓ws_ret, ↓ws_retN, ↓ws_brk, ↓ws_cont, ↓ws_pass, ↓sq_n, ↓sq_b, ↓sq_c, ↓sq_r, ↓sq_z, ↓fin_ret, ↓fin_next, ↓fin_rz, ↓isTy_cv, ↓isTy_rt, ↓tr_cv, ↓tr_rt, look_z, look_s, rgW_rg, isNon_non, isNon_bl, isNon_int, isNon_str, isNon_tup, isNon_fl, isNon_ref, eqW_int, eqW_bl, tr_non, tr_bl, tr_int, tr_tup, ixN_in, ixN_neg, mtW_ref, seqOf_ref, seqOf_tup, seqOf_fl, seqOf_rt, seqOf_cv, isNon_rt, isNon_cv, isTup_rt, isTup_cv, guOf_rt, guOf_cv, isTy_rt, isTy_cv, cv_eq, rt_eq, asg_rt, asg_cv, asg_var, asg_tup2, asg_tup3, isTy, guOf, isTup, intW, aug_add, aug_sub, augO_a, augO_s, lstAt_z, lstAt_s, lstAt_al, lstAt_e, lstAt_ar, Nat.sub_self, Nat.add_sub_cancel_left, Nat.reduceSubDiff, List.append_assoc, lstAt_set, lstAt_ne, toInts_ints, toInts_nil, toInts_cons, toBls_nil, toBls_cons, Option.map_some, List.set_cons_succ, List.set_cons_zero, List.getElem?_cons_zero, List.getElem?_cons_succ, List.getElem_cons_zero, List.getElem_cons_succ, List.length_cons, List.length_nil, List.length_set, List.length_append, List.length_map, List.nil_append, List.cons_append, List.append_nil, List.set_set, Nat.reduceAdd, Nat.reduceLeDiff, Nat.reduceLT, Nat.reduceSub, true_and, and_true, Bool.not_true, Bool.not_false, decide_true, decide_false, Int.reduceToNat, Int.reducePow, Int.reduceNeg, Int.cast_ofNat_Int, decide_eq_true_eq, Nat.zero_add, Nat.add_zero, Int.toNat_natCast, Int.reduceLT, Int.reduceLE, Int.reduceBNe, Int.reduceEq, Int.natCast_add, Nat.le_refl]
    refine ⟨by simp [els]; omega, ?_⟩
    unfold els
    rw [List.range_succ]
    simp
  · rintro g acc ⟨rfl, rfl⟩
    try simp -implicitDefEqProofs -dsimp (disch := first | omega | (simp only [List.length_set, List.length_append, List.length_cons, List.length_nil, List.length_map]; omega)) only [↓wp_ok, ↓wp_err, ↓wp_exc, ↓wp_bind, ↓wp_var, ↓wp_cst, ↓wp_bin, ↓wp_neg, ↓wp_cmp, ↓wp_and, ↓wp_or, ↓wp_not, ↓wp_ite, ↓wp_tup, ↓wp_lst, ↓wp_idx, ↓wp_slc, ↓wp_call, ↓wp_bi, ↓wp_bl, ↓wp_mt, ↓wp_mk, ↓wp_lr1, ↓wp_lr2, ↓wp_aa, ↓wp_tr2, ↓wp_maxD, ↓wp_srt, ↓wp_glc, ↓wp_rgN, ↓wp_srtD, ↓wp_lc2, ↓wp_i3, ↓wp_iv, ↓mt_pp, ↓mt_ppA, ↓wp_esn, ↓wp_esc, ↓wp_pn, ↓wp_pa, ↓wp_tv, ↓wp_ta, ↓wp_to, ↓wp_tn, ↓wp_lo, ↓wp_ld, ↓wp_lc, ↓wp_tsn, ↓wp_tsc, ↓wp_io, ↓wp_i1, ↓wp_i2, ↓wp_iz, ↓wp_ie, ↓wo_some, ↓wo_none, ↓br_t, ↓br_f, ↓wps_ok, ↓wps_st, ↓wb_add, ↓wb_sub, ↓wb_mulR, ↓wb_mulL, ↓wb_div, ↓wb_mod, ↓wb_pow, ↓wb_addT, ↓wb_mulT, ↓wb_addL, ↓wb_mulLs, ↓wn_neg, ↓wc_eq, ↓wc_ne, ↓wc_lt, ↓wc_le, ↓wc_gt, ↓wc_ge, ↓wc_in, ↓wc_nin, ↓wc_isN, ↓wc_notN, ↓item_int, ↓sl_tup, ↓sl_ref, ↓bi_len, ↓bi_abs, ↓bi_int, ↓bi_intb, ↓bi_isI, ↓bi_max, ↓bi_min, ↓bi_divmod, ↓bi_lcm, ↓bi_gcd, ↓bl_sum, ↓bl_tuple, ↓bl_list, ↓bl_len, ↓bl_max, ↓bl_min, ↓mt_app, ↓mt_ext, ↓mt_ix, ↓setIt_ref, ↓ws_n, ↓ws_c, ↓ws_expr, ↓ws_asg, ↓ws_set, ↓ws_aug, ↓ws_augS, ↓ws_bad, ↓ws_if, ↓ws_for, ↓ws_whl, ↓ws_ret, ↓ws_retN, ↓ws_brk, ↓ws_cont, ↓ws_pass, ↓sq_n, ↓sq_b, ↓sq_c, ↓sq_r, ↓sq_z, ↓fin_ret, ↓fin_next, ↓fin_rz, ↓isTy_cv, ↓isTy_rt, ↓tr_cv, ↓tr_rt, look_z, look_s, rgW_rg, isNon_non, isNon_bl, isNon_int, isNon_str, isNon_tup, isNon_fl, isNon_ref, eqW_int, eqW_bl, tr_non, tr_bl, tr_int, tr_tup, ixN_in, ixN_neg, mtW_ref, seqOf_ref, seqOf_tup, seqOf_fl, seqOf_rt, seqOf_cv, isNon_rt, isNon_cv, isTup_rt, isTup_cv, guOf_rt, guOf_cv, isTy_rt, isTy_cv, cv_eq, rt_eq, asg_rt, asg_cv, asg_var, asg_tup2, asg_tup3, isTy, guOf, isTup, intW, aug_add, aug_sub, augO_a, augO_s, lstAt_z, lstAt_s, lstAt_al, lstAt_e, lstAt_ar, Nat.sub_self, Nat.add_sub_cancel_left, Nat.reduceSubDiff, List.append_assoc, lstAt_set, lstAt_ne, toInts_ints, toInts_nil, toInts_cons, toBls_nil, toBls_cons, Option.map_some, List.set_cons_succ, List.set_cons_zero, List.getElem?_cons_zero, List.getElem?_cons_succ, List.getElem_cons_zero, List.getElem_cons_succ, List.length_cons, List.length_nil, List.length_set, List.length_append, List.length_map, List.nil_append, List.cons_append, List.append_nil, List.set_set, Nat.reduceAdd, Nat.reduceLeDiff, Nat.reduceLT, Nat.reduceSub, true_and, and_true, Bool.not_true, Bool.not_false, decide_true, decide_false, Int.reduceToNat, Int.reducePow, Int.reduceNeg, Int.cast_ofNat_Int, decide_eq_true_eq, Nat.zero_add, Nat.add_zero, Int.toNat_natCast, Int.reduceLT, Int.reduceLE, Int.reduceBNe, Int.reduceEq, Int.natCast_add, Nat.le_refl]
    have hne : els N (hd.length + tn.length) ≠ [] := by
      unfold els
      intro z
      have := congrArg List.length z
      rw [List.length_map, List.length_range, List.length_nil] at this
      omega
    refine ⟨hne, ?_⟩
    rw [tidy_one (Old.refl g) blw_int, maxL_fold hne fun x hx => ?_]
    · exact ⟨rfl, rfl⟩
    · obtain ⟨s, _, rfl⟩ := List.mem_map.mp hx
      have := wk_ge C (hN s)
      omega
theorem longest_ok {k : Nat} {h : Hw} {hd tn : List Int} {j : Nat} {N : Nat → Nat} (C : Cal hd tn) (hj : j ≤ 1000000) (hN : ∀ s, Wk hd tn s j (N s)) : PhiN ds (k + 3) 15 [cv 0 hd tn, .int j] h = .ok (.int ((els N (hd.length + tn.length)).foldl max 0)) h := by
  have l := C.l
  refine wp_run (go__law_longest ?_)
  generalize w2 : W.int (j : Int) = wj
  unfold s__law_longest
  try simp -implicitDefEqProofs -dsimp (disch := first | omega | (simp only [List.length_set, List.length_append, List.length_cons, List.length_nil, List.length_map]; omega)) only [↓wp_ok, ↓wp_err, ↓wp_exc, ↓wp_bind, ↓wp_var, ↓wp_cst, ↓wp_bin, ↓wp_neg, ↓wp_cmp, ↓wp_and, ↓wp_or, ↓wp_not, ↓wp_ite, ↓wp_tup, ↓wp_lst, ↓wp_idx, ↓wp_slc, ↓wp_call, ↓wp_bi, ↓wp_bl, ↓wp_mt, ↓wp_mk, ↓wp_lr1, ↓wp_lr2, ↓wp_aa, ↓wp_tr2, ↓wp_maxD, ↓wp_srt, ↓wp_glc, ↓wp_rgN, ↓wp_srtD, ↓wp_lc2, ↓wp_i3, ↓wp_iv, ↓mt_pp, ↓mt_ppA, ↓wp_esn, ↓wp_esc, ↓wp_pn, ↓wp_pa, ↓wp_tv, ↓wp_ta, ↓wp_to, ↓wp_tn, ↓wp_lo, ↓wp_ld, ↓wp_lc, ↓wp_tsn, ↓wp_tsc, ↓wp_io, ↓wp_i1, ↓wp_i2, ↓wp_iz, ↓wp_ie, ↓wo_some, ↓wo_none, ↓br_t, ↓br_f, ↓wps_ok, ↓wps_st, ↓wb_add, ↓wb_sub, ↓wb_mulR, ↓wb_mulL, ↓wb_div, ↓wb_mod, ↓wb_pow, ↓wb_addT, ↓wb_mulT, ↓wb_addL, ↓wb_mulLs, ↓wn_neg, ↓wc_eq, ↓wc_ne, ↓wc_lt, ↓wc_le, ↓wc_gt, ↓wc_ge, ↓wc_in, ↓wc_nin, ↓wc_isN, ↓wc_notN, ↓item_int, ↓sl_tup, ↓sl_ref, ↓bi_len, ↓bi_abs, ↓bi_int, ↓bi_intb, ↓bi_isI, ↓bi_max, ↓bi_min, ↓bi_divmod, ↓bi_lcm, ↓bi_gcd, ↓bl_sum, ↓bl_tuple, ↓bl_list, ↓bl_len, ↓bl_max, ↓bl_min, ↓mt_app, ↓mt_ext, ↓mt_ix, ↓setIt_ref, ↓ws_n, ↓ws_c, ↓ws_expr, ↓ws_asg, ↓ws_set, ↓ws_aug, ↓ws_augS, ↓ws_bad, ↓ws_if, ↓ws_for, ↓ws_whl, ↓ws_ret, ↓ws_retN, ↓ws_brk, ↓ws_cont, ↓ws_pass, ↓sq_n, ↓sq_b, ↓sq_c, ↓sq_r, ↓sq_z, ↓fin_ret, ↓fin_next, ↓fin_rz, ↓isTy_cv, ↓isTy_rt, ↓tr_cv, ↓tr_rt, look_z, look_s, rgW_rg, isNon_non, isNon_bl, isNon_int, isNon_str, isNon_tup, isNon_fl, isNon_ref, eqW_int, eqW_bl, tr_non, tr_bl, tr_int, tr_tup, ixN_in, ixN_neg, mtW_ref, seqOf_ref, seqOf_tup, seqOf_fl, seqOf_rt, seqOf_cv, isNon_rt, isNon_cv, isTup_rt, isTup_cv, guOf_rt, guOf_cv, isTy_rt, isTy_cv, cv_eq, rt_eq, asg_rt, asg_cv, asg_var, asg_tup2, asg_tup3, isTy, guOf, isTup, intW, aug_add, aug_sub, augO_a, augO_s, lstAt_z, lstAt_s, lstAt_al, lstAt_e, lstAt_ar, Nat.sub_self, Nat.add_sub_cancel_left, Nat.reduceSubDiff, List.append_assoc, lstAt_set, lstAt_ne, toInts_ints, toInts_nil, toInts_cons, toBls_nil, toBls_cons, Option.map_some, List.set_cons_succ, List.set_cons_zero, List.getElem?_cons_zero, List.getElem?_cons_succ, List.getElem_cons_zero, List.getElem_cons_succ, List.length_cons, List.length_nil, List.length_set, List.length_append, List.length_map, List.nil_append, List.cons_append, List.append_nil, List.set_set, Nat.reduceAdd, Nat.reduceLeDiff, Nat.reduceLT, Nat.reduceSub, true_and, and_true, Bool.not_true, Bool.not_false, decide_true, decide_false, Int.reduceToNat, Int.reducePow, Int.reduceNeg, Int.cast_ofNat_Int, decide_eq_true_eq, Nat.zero_add, Nat.add_zero, Int.toNat_natCast, Int.reduceLT, Int.reduceLE, Int.reduceBNe, Int.reduceEq, Int.natCast_add, Nat.le_refl]
  refine ⟨by omega, ?_⟩
  have en : ((hd.length : Int) + (tn.length : Int)).toNat = hd.length + tn.length := by omega
  rw [en]
  refine wps_rng (fun i ρ g => g = h ∧ ∃ x3, ρ = [some (cv 0 hd tn), some wj, some (.int ((els N i).foldl max 0)), x3]) ?_ ⟨rfl, none, rfl⟩ ?_
  · rintro i ρ g hi ⟨rfl, x3, rfl⟩
    have e1 : (0 : Int) + (i : Int) = ((i : Nat) : Int) := by omega
    subst w2
    try simp -implicitDefEqProofs -dsimp (disch := first | omega | (simp only [List.length_set, List.length_append, List.length_cons, List.length_nil, List.length_map]; omega)) only [↓wp_ok, ↓wp_err, ↓wp_exc, ↓wp_bind, ↓wp_var, ↓wp_cst, ↓wp_bin, ↓wp_neg, ↓wp_cmp, ↓wp_and, ↓wp_or, ↓wp_not, ↓wp_ite, ↓wp_tup, ↓wp_lst, ↓wp_idx, ↓wp_slc, ↓wp_call, ↓wp_bi, ↓wp_bl, ↓wp_mt, ↓wp_mk, ↓wp_lr1, ↓wp_lr2, ↓wp_aa, ↓wp_tr2, ↓wp_maxD, ↓wp_srt, ↓wp_glc, ↓wp_rgN, ↓wp_srtD, ↓wp_lc2, ↓wp_i3, ↓wp_iv, ↓mt_pp, ↓mt_ppA, ↓wp_esn, ↓wp_esc, ↓wp_pn, ↓wp_pa, ↓wp_tv, ↓wp_ta, ↓wp_to, ↓wp_tn, ↓wp_lo, ↓wp_ld, ↓wp_lc, ↓wp_tsn, ↓wp_tsc, ↓wp_io, ↓wp_i1, ↓wp_i2, ↓wp_iz, ↓wp_ie, ↓wo_some, ↓wo_none, ↓br_t, ↓br_f, ↓wps_ok, ↓wps_st, ↓wb_add, ↓wb_sub, ↓wb_mulR, ↓wb_mulL, ↓wb_div, ↓wb_mod, ↓wb_pow, ↓wb_addT, ↓wb_mulT, ↓wb_addL, ↓wb_mulLs, ↓wn_neg, ↓wc_eq, ↓wc_ne, ↓wc_lt, ↓wc_le, ↓wc_gt, ↓wc_ge, ↓wc_in, ↓wc_nin, ↓wc_isN, ↓wc_notN, ↓item_int, ↓sl_tup, ↓sl_ref, ↓bi_len, ↓bi_abs, ↓bi_int, ↓bi_intb, ↓bi_isI, ↓bi_max, ↓bi_min, ↓bi_divmod, ↓bi_lcm, ↓bi_gcd, ↓bl_sum, ↓bl_tuple, ↓bl_list, ↓bl_len, ↓bl_max, ↓bl_min, ↓mt_app, ↓mt_ext, ↓mt_ix, ↓setIt_ref, ↓ws_n, ↓ws_c, ↓ws_expr, ↓ws_asg, ↓ws_set, ↓ws_aug, ↓ws_augS, ↓ws_bad, ↓ws_if, ↓ws_for, ↓ws_whl, ↓ws_ret, ↓ws_retN, ↓ws_brk, ↓ws_cont, ↓ws_pass, ↓sq_n, ↓sq_b, ↓sq_c, ↓sq_r, ↓sq_z, ↓fin_ret, ↓fin_next, ↓fin_rz, ↓isTy_cv, ↓isTy_rt, ↓tr_cv, ↓tr_rt, look_z, look_s, rgW_rg, isNon_non, isNon_bl, isNon_int, isNon_str, isNon_tup, isNon_fl, isNon_ref, eqW_int, eqW_bl, tr_non, tr_bl, tr_int, tr_tup, ixN_in, ixN_neg, mtW_ref, seqOf_ref, seqOf_tup, seqOf_fl, seqOf_rt, seqOf_cv, isNon_rt, isNon_cv, isTup_rt, isTup_cv, guOf_rt, guOf_cv, isTy_rt, isTy_cv, cv_eq, rt_eq, asg_rt, asg_cv, asg_var, asg_tup2, asg_tup3, isTy, guOf, isTup, intW, aug_add, aug_sub, augO_a, augO_s, lstAt_z, lstAt_s, lstAt_al, lstAt_e, lstAt_ar, Nat.sub_self, Nat.add_sub_cancel_left, Nat.reduceSubDiff, List.append_assoc, lstAt_set, lstAt_ne, toInts_ints, toInts_nil, toInts_cons, toBls_nil, toBls_cons, Option.map_some, List.set_cons_succ, List.set_cons_zero, List.getElem?_cons_zero, List.getElem?_cons_succ, List.getElem_cons_zero, List.getElem_cons_succ, List.length_cons, List.length_nil, List.length_set, List.length_append, List.length_map, List.nil_append, List.cons_append, List.append_nil, List.set_set, Nat.reduceAdd, Nat.reduceLeDiff, Nat.reduceLT, Nat.reduceSub, true_and, and_true, Bool.not_true, Bool.not_false, decide_true, decide_false, Int.reduceToNat, Int.reducePow, Int.reduceNeg, Int.cast_ofNat_Int, decide_eq_true_eq, Nat.zero_add, Nat.add_zero, Int.toNat_natCast, Int.reduceLT, Int.reduceLE, Int.reduceBNe, Int.reduceEq, Int.natCast_add, Nat.le_refl, b__law_longest_1, e1]
    rw [work_ok C (by omega) (hN i), wp_ok]
    try simp -implicitDefEqProofs -dsimp (disch := first | omega | (simp only [List.length_set, List.length_append, List.length_cons, List.length_nil, List.length_map]; omega)) only [↓wp_ok, ↓wp_err, ↓wp_exc, ↓wp_bind, ↓wp_var, ↓wp_cst, ↓wp_bin, ↓wp_neg, ↓wp_cmp, ↓wp_and, ↓wp_or, ↓wp_not, ↓wp_ite, ↓wp_tup, ↓wp_lst, ↓wp_idx, ↓wp_slc, ↓wp_call, ↓wp_bi, ↓wp_bl, ↓wp_mt, ↓wp_mk, ↓wp_lr1, ↓wp_lr2, ↓wp_aa, ↓wp_tr2, ↓wp_maxD, ↓wp_srt, ↓wp_glc, ↓wp_rgN, ↓wp_srtD, ↓wp_lc2, ↓wp_i3, ↓wp_iv, ↓mt_pp, ↓mt_ppA, ↓wp_esn, ↓wp_esc, ↓wp_pn, ↓wp_pa, ↓wp_tv, ↓wp_ta, ↓wp_to, ↓wp_tn, ↓wp_lo, ↓wp_ld, ↓wp_lc, ↓wp_tsn, ↓wp_tsc, ↓wp_io, ↓wp_i1, ↓wp_i2, ↓wp_iz, ↓wp_ie, ↓wo_some, ↓wo_none, ↓br_t, ↓br_f, ↓wps_ok, ↓wps_st, ↓wb_add, ↓wb_sub, ↓wb_mulR, ↓wb_mulL, ↓wb_div, ↓wb_mod, ↓wb_pow, ↓wb_addT, ↓wb_mulT, ↓wb_addL, ↓wb_mulLs, ↓wn_neg, ↓wc_eq, ↓wc_ne, ↓wc_lt, ↓wc_le, ↓wc_gt, ↓wc_ge, ↓wc_in, ↓wc_nin, ↓wc_isN, ↓wc_notN, ↓item_int, ↓sl_tup, ↓sl_ref, ↓bi_len, ↓bi_abs, ↓bi_int, ↓bi_intb, ↓bi_isI, ↓bi_max, ↓bi_min, ↓bi_divmod, ↓bi_lcm, ↓bi_gcd, ↓bl_sum, ↓bl_tuple, ↓bl_list, ↓bl_len, ↓bl_max, ↓bl_min, ↓mt_app, ↓mt_ext, ↓mt_ix, ↓setIt_ref, ↓ws_n, ↓ws_c, ↓ws_expr, ↓ws_asg, ↓ws_set, ↓ws_aug, ↓ws_augS, ↓ws_bad, ↓ws_if, ↓ws_for, ↓ws_whl, ↓ws_ret, ↓ws_retN, ↓ws_brk, ↓ws_cont, ↓ws_pass, ↓sq_n, ↓sq_b, ↓sq_c, ↓sq_r, ↓sq_z, ↓fin_ret, ↓fin_next, ↓fin_rz, ↓isTy_cv, ↓isTy_rt, ↓tr_cv, ↓tr_rt, look_z, look_s, rgW_rg, isNon_non, isNon_bl, isNon_int, isNon_str, isNon_tup, isNon_fl, isNon_ref, eqW_int, eqW_bl, tr_non, tr_bl, tr_int, tr_tup, ixN_in, ixN_neg, mtW_ref, seqOf_ref, seqOf_tup, seqOf_fl, seqOf_rt, seqOf_cv, isNon_rt, isNon_cv, isTup_rt, isTup_cv, guOf_rt, guOf_cv, isTy_rt, isTy_cv, cv_eq, rt_eq, asg_rt, asg_cv, asg_var, asg_tup2, asg_tup3, isTy, guOf, isTup, intW, aug_add, aug_sub, augO_a, augO_s, lstAt_z, lstAt_s, lstAt_al, lstAt_e, lstAt_ar, Nat.sub_self, Nat.add_sub_cancel_left, Nat.reduceSubDiff, List.append_assoc, lstAt_set, lstAt_ne, toInts_ints, toInts_nil, toInts_cons, toBls_nil, toBls_cons, Option.map_some, List.set_cons_succ, List.set_cons_zero, List.getElem?_cons_zero, List.getElem?_cons_succ, List.getElem_cons_zero, List.getElem_cons_succ, List.length_cons, List.length_nil, List.length_set, List.length_append, List.length_map, List.nil_append, List.cons_append, List.append_nil, List.set_set, Nat.reduceAdd, Nat.reduceLeDiff, Nat.reduceLT, Nat.reduceSub, true_and, and_true, Bool.not_true, Bool.not_false, decide_true, decide_false, Int.reduceToNat, Int.reducePow, Int.reduceNeg, Int.cast_ofNat_Int, decide_eq_true_eq, Nat.zero_add, Nat.add_zero, Int.toNat_natCast, Int.reduceLT, Int.reduceLE, Int.reduceBNe, Int.reduceEq, Int.natCast_add, Nat.le_refl]
    refine ⟨some (.int i), ?_⟩
    unfold els
    rw [List.range_succ]
    simp
  · rintro ρ g ⟨rfl, x3, rfl⟩
    try simp -implicitDefEqProofs -dsimp (disch := first | omega | (simp only [List.length_set, List.length_append, List.length_cons, List.length_nil, List.length_map]; omega)) only [↓wp_ok, ↓wp_err, ↓wp_exc, ↓wp_bind, ↓wp_var, ↓wp_cst, ↓wp_bin, ↓wp_neg, ↓wp_cmp, ↓wp_and, ↓wp_or, ↓wp_not, ↓wp_ite, ↓wp_tup, ↓wp_lst, ↓wp_idx, ↓wp_slc, ↓wp_call, ↓wp_bi, ↓wp_bl, ↓wp_mt, ↓wp_mk, ↓wp_lr1, ↓wp_lr2, ↓wp_aa, ↓wp_tr2, ↓wp_maxD, ↓wp_srt, ↓wp_glc, ↓wp_rgN, ↓wp_srtD, ↓wp_lc2, ↓wp_i3, ↓wp_iv, ↓mt_pp, ↓mt_ppA, ↓wp_esn, ↓wp_esc, ↓wp_pn, ↓wp_pa, ↓wp_tv, ↓wp_ta, ↓wp_to, ↓wp_tn, ↓wp_lo, ↓wp_ld, ↓wp_lc, ↓wp_tsn, ↓wp_tsc, ↓wp_io, ↓wp_i1, ↓wp_i2, ↓wp_iz, ↓wp_ie, ↓wo_some, ↓wo_none, ↓br_t, ↓br_f, ↓wps_ok, ↓wps_st, ↓wb_add, ↓wb_sub, ↓wb_mulR, ↓wb_mulL, ↓wb_div, ↓wb_mod, ↓wb_pow, ↓wb_addT, ↓wb_mulT, ↓wb_addL, ↓wb_mulLs, ↓wn_neg, ↓wc_eq, ↓wc_ne, ↓wc_lt, ↓wc_le, ↓wc_gt, ↓wc_ge, ↓wc_in, ↓wc_nin, ↓wc_isN, ↓wc_notN, ↓item_int, ↓sl_tup, ↓sl_ref, ↓bi_len, ↓bi_abs, ↓bi_int, ↓bi_intb, ↓bi_isI, ↓bi_max, ↓bi_min, ↓bi_divmod, ↓bi_lcm, ↓bi_gcd, ↓bl_sum, ↓bl_tuple, ↓bl_list, ↓bl_len, ↓bl_max, ↓bl_min, ↓mt_app, ↓mt_ext, ↓mt_ix, ↓setIt_ref, ↓ws_n, ↓ws_c, ↓ws_expr, ↓ws_asg, ↓ws_set, ↓ws_aug, ↓ws_augS, ↓ws_bad, ↓ws_if, ↓ws_for, ↓ws_whl, ↓ws_ret, ↓ws_retN, ↓ws_brk, ↓ws_cont, ↓ws_pass, ↓sq_n, ↓sq_b, ↓sq_c, ↓sq_r, ↓sq_z, ↓fin_ret, ↓fin_next, ↓fin_rz, ↓isTy_cv, ↓isTy_rt, ↓tr_cv, ↓tr_rt, look_z, look_s, rgW_rg, isNon_non, isNon_bl, isNon_int, isNon_str, isNon_tup, isNon_fl, isNon_ref, eqW_int, eqW_bl, tr_non, tr_bl, tr_int, tr_tup, ixN_in, ixN_neg, mtW_ref, seqOf_ref, seqOf_tup, seqOf_fl, seqOf_rt, seqOf_cv, isNon_rt, isNon_cv, isTup_rt, isTup_cv, guOf_rt, guOf_cv, isTy_rt, isTy_cv, cv_eq, rt_eq, asg_rt, asg_cv, asg_var, asg_tup2, asg_tup3, isTy, guOf, isTup, intW, aug_add, aug_sub, augO_a, augO_s, lstAt_z, lstAt_s, lstAt_al, lstAt_e, lstAt_ar, Nat.sub_self, Nat.add_sub_cancel_left, Nat.reduceSubDiff, List.append_assoc, lstAt_set, lstAt_ne, toInts_ints, toInts_nil, toInts_cons, toBls_nil, toBls_cons, Option.map_some, List.set_cons_succ, List.set_cons_zero, List.getElem?_cons_zero, List.getElem?_cons_succ, List.getElem_cons_zero, List.getElem_cons_succ, List.length_cons, List.length_nil, List.length_set, List.length_append, List.length_map, List.nil_append, List.cons_append, List.append_nil, List.set_set, Nat.reduceAdd, Nat.reduceLeDiff, Nat.reduceLT, Nat.reduceSub, true_and, and_true, Bool.not_true, Bool.not_false, decide_true, decide_false, Int.reduceToNat, Int.reducePow, Int.reduceNeg, Int.cast_ofNat_Int, decide_eq_true_eq, Nat.zero_add, Nat.add_zero, Int.toNat_natCast, Int.reduceLT, Int.reduceLE, Int.reduceBNe, Int.reduceEq, Int.natCast_add, Nat.le_refl]
    rw [tidy_one (Old.refl g) blw_int]
    exact ⟨rfl, rfl⟩
theorem isNon_oW (o : Option Nat) : isNon (oW o) = o.isNone := by cases o <;> rfl
theorem by_wp {k q p : Nat} {h : Hw} {hd tn : List Int} {e j : Nat} {o : Option Nat} {Q : W → Hw → Prop} {E : Ex → Hw → Prop} (T : Tp q p h) (C : Cal hd tn) (x : Ls hd tn e j o)
    (K : ∀ (h' : Hw), Fr q p h h' → h'.length = h.length → Q (.bl true) h') : wp (PhiN ds (k + 3) 16 [.ref p, cv 0 hd tn, .int e, .int j, oW o] h) Q E := by
  have hp := T.lt
  generalize w1 : W.int (e : Int) = we
  generalize w2 : W.int (j : Int) = wj
  refine go__law_by ?_
  unfold s__law_by
  try simp -implicitDefEqProofs -dsimp (disch := first | omega | (simp only [List.length_set, List.length_append, List.length_cons, List.length_nil, List.length_map]; omega)) only [↓wp_ok, ↓wp_err, ↓wp_exc, ↓wp_bind, ↓wp_var, ↓wp_cst, ↓wp_bin, ↓wp_neg, ↓wp_cmp, ↓wp_and, ↓wp_or, ↓wp_not, ↓wp_ite, ↓wp_tup, ↓wp_lst, ↓wp_idx, ↓wp_slc, ↓wp_call, ↓wp_bi, ↓wp_bl, ↓wp_mt, ↓wp_mk, ↓wp_lr1, ↓wp_lr2, ↓wp_aa, ↓wp_tr2, ↓wp_maxD, ↓wp_srt, ↓wp_glc, ↓wp_rgN, ↓wp_srtD, ↓wp_lc2, ↓wp_i3, ↓wp_iv, ↓mt_pp, ↓mt_ppA, ↓wp_esn, ↓wp_esc, ↓wp_pn, ↓wp_pa, ↓wp_tv, ↓wp_ta, ↓wp_to, ↓wp_tn, ↓wp_lo, ↓wp_ld, ↓wp_lc, ↓wp_tsn, ↓wp_tsc, ↓wp_io, ↓wp_i1, ↓wp_i2, ↓wp_iz, ↓wp_ie, ↓wo_some, ↓wo_none, ↓br_t, ↓br_f, ↓wps_ok, ↓wps_st, ↓wb_add, ↓wb_sub, ↓wb_mulR, ↓wb_mulL, ↓wb_div, ↓wb_mod, ↓wb_pow, ↓wb_addT, ↓wb_mulT, ↓wb_addL, ↓wb_mulLs, ↓wn_neg, ↓wc_eq, ↓wc_ne, ↓wc_lt, ↓wc_le, ↓wc_gt, ↓wc_ge, ↓wc_in, ↓wc_nin, ↓wc_isN, ↓wc_notN, ↓item_int, ↓sl_tup, ↓sl_ref, ↓bi_len, ↓bi_abs, ↓bi_int, ↓bi_intb, ↓bi_isI, ↓bi_max, ↓bi_min, ↓bi_divmod, ↓bi_lcm, ↓bi_gcd, ↓bl_sum, ↓bl_tuple, ↓bl_list, ↓bl_len, ↓bl_max, ↓bl_min, ↓mt_app, ↓mt_ext, ↓mt_ix, ↓setIt_ref, ↓ws_n, ↓ws_c, ↓ws_expr, ↓ws_asg, ↓ws_set, ↓ws_aug, ↓ws_augS, ↓ws_bad, ↓ws_if, ↓ws_for, ↓ws_whl, ↓ws_ret, ↓ws_retN, ↓ws_brk, ↓ws_cont, ↓ws_pass, ↓sq_n, ↓sq_b, ↓sq_c, ↓sq_r, ↓sq_z, ↓fin_ret, ↓fin_next, ↓fin_rz, ↓isTy_cv, ↓isTy_rt, ↓tr_cv, ↓tr_rt, look_z, look_s, rgW_rg, isNon_non, isNon_bl, isNon_int, isNon_str, isNon_tup, isNon_fl, isNon_ref, eqW_int, eqW_bl, tr_non, tr_bl, tr_int, tr_tup, ixN_in, ixN_neg, mtW_ref, seqOf_ref, seqOf_tup, seqOf_fl, seqOf_rt, seqOf_cv, isNon_rt, isNon_cv, isTup_rt, isTup_cv, guOf_rt, guOf_cv, isTy_rt, isTy_cv, cv_eq, rt_eq, asg_rt, asg_cv, asg_var, asg_tup2, asg_tup3, isTy, guOf, isTup, intW, aug_add, aug_sub, augO_a, augO_s, lstAt_z, lstAt_s, lstAt_al, lstAt_e, lstAt_ar, Nat.sub_self, Nat.add_sub_cancel_left, Nat.reduceSubDiff, List.append_assoc, lstAt_set, lstAt_ne, toInts_ints, toInts_nil, toInts_cons, toBls_nil, toBls_cons, Option.map_some, List.set_cons_succ, List.set_cons_zero, List.getElem?_cons_zero, List.getElem?_cons_succ, List.getElem_cons_zero, List.getElem_cons_succ, List.length_cons, List.length_nil, List.length_set, List.length_append, List.length_map, List.nil_append, List.cons_append, List.append_nil, List.set_set, Nat.reduceAdd, Nat.reduceLeDiff, Nat.reduceLT, Nat.reduceSub, true_and, and_true, Bool.not_true, Bool.not_false, decide_true, decide_false, Int.reduceToNat, Int.reducePow, Int.reduceNeg, Int.cast_ofNat_Int, decide_eq_true_eq, Nat.zero_add, Nat.add_zero, Int.toNat_natCast, Int.reduceLT, Int.reduceLE, Int.reduceBNe, Int.reduceEq, Int.natCast_add, Nat.le_refl]
  have rest : ∀ (g : Hw) (near : Nat), Fr q p h g → wps (evSs (PhiN ds (k + 2)) (.cons (.for (.var 6) (.of (.disp (.cons (.bi .min2 (.cons (.var 5) (.cons (.cst (.int 1000)) (.nil)))) (.cons (.call 7 (.cons (.var 0) (.cons (.cst (.int 101)) (.nil)))) (.nil))))) b__law_by_1) (.cons (.ret (.cst (.bl true))) (.nil))) [some (.ref p), some (cv 0 hd tn), some we, some wj, some (oW o), some (.int near), none, none] g) (fin h Q E) := by
    intro g near F
    try simp -implicitDefEqProofs -dsimp (disch := first | omega | (simp only [List.length_set, List.length_append, List.length_cons, List.length_nil, List.length_map]; omega)) only [↓wp_ok, ↓wp_err, ↓wp_exc, ↓wp_bind, ↓wp_var, ↓wp_cst, ↓wp_bin, ↓wp_neg, ↓wp_cmp, ↓wp_and, ↓wp_or, ↓wp_not, ↓wp_ite, ↓wp_tup, ↓wp_lst, ↓wp_idx, ↓wp_slc, ↓wp_call, ↓wp_bi, ↓wp_bl, ↓wp_mt, ↓wp_mk, ↓wp_lr1, ↓wp_lr2, ↓wp_aa, ↓wp_tr2, ↓wp_maxD, ↓wp_srt, ↓wp_glc, ↓wp_rgN, ↓wp_srtD, ↓wp_lc2, ↓wp_i3, ↓wp_iv, ↓mt_pp, ↓mt_ppA, ↓wp_esn, ↓wp_esc, ↓wp_pn, ↓wp_pa, ↓wp_tv, ↓wp_ta, ↓wp_to, ↓wp_tn, ↓wp_lo, ↓wp_ld, ↓wp_lc, ↓wp_tsn, ↓wp_tsc, ↓wp_io, ↓wp_i1, ↓wp_i2, ↓wp_iz, ↓wp_ie, ↓wo_some, ↓wo_none, ↓br_t, ↓br_f, ↓wps_ok, ↓wps_st, ↓wb_add, ↓wb_sub, ↓wb_mulR, ↓wb_mulL, ↓wb_div, ↓wb_mod, ↓wb_pow, ↓wb_addT, ↓wb_mulT, ↓wb_addL, ↓wb_mulLs, ↓wn_neg, ↓wc_eq, ↓wc_ne, ↓wc_lt, ↓wc_le, ↓wc_gt, ↓wc_ge, ↓wc_in, ↓wc_nin, ↓wc_isN, ↓wc_notN, ↓item_int, ↓sl_tup, ↓sl_ref, ↓bi_len, ↓bi_abs, ↓bi_int, ↓bi_intb, ↓bi_isI, ↓bi_max, ↓bi_min, ↓bi_divmod, ↓bi_lcm, ↓bi_gcd, ↓bl_sum, ↓bl_tuple, ↓bl_list, ↓bl_len, ↓bl_max, ↓bl_min, ↓mt_app, ↓mt_ext, ↓mt_ix, ↓setIt_ref, ↓ws_n, ↓ws_c, ↓ws_expr, ↓ws_asg, ↓ws_set, ↓ws_aug, ↓ws_augS, ↓ws_bad, ↓ws_if, ↓ws_for, ↓ws_whl, ↓ws_ret, ↓ws_retN, ↓ws_brk, ↓ws_cont, ↓ws_pass, ↓sq_n, ↓sq_b, ↓sq_c, ↓sq_r, ↓sq_z, ↓fin_ret, ↓fin_next, ↓fin_rz, ↓isTy_cv, ↓isTy_rt, ↓tr_cv, ↓tr_rt, look_z, look_s, rgW_rg, isNon_non, isNon_bl, isNon_int, isNon_str, isNon_tup, isNon_fl, isNon_ref, eqW_int, eqW_bl, tr_non, tr_bl, tr_int, tr_tup, ixN_in, ixN_neg, mtW_ref, seqOf_ref, seqOf_tup, seqOf_fl, seqOf_rt, seqOf_cv, isNon_rt, isNon_cv, isTup_rt, isTup_cv, guOf_rt, guOf_cv, isTy_rt, isTy_cv, cv_eq, rt_eq, asg_rt, asg_cv, asg_var, asg_tup2, asg_tup3, isTy, guOf, isTup, intW, aug_add, aug_sub, augO_a, augO_s, lstAt_z, lstAt_s, lstAt_al, lstAt_e, lstAt_ar, Nat.sub_self, Nat.add_sub_cancel_left, Nat.reduceSubDiff, List.append_assoc, lstAt_set, lstAt_ne, toInts_ints, toInts_nil, toInts_cons, toBls_nil, toBls_cons, Option.map_some, List.set_cons_succ, List.set_cons_zero, List.getElem?_cons_zero, List.getElem?_cons_succ, List.getElem_cons_zero, List.getElem_cons_succ, List.length_cons, List.length_nil, List.length_set, List.length_append, List.length_map, List.nil_append, List.cons_append, List.append_nil, List.set_set, Nat.reduceAdd, Nat.reduceLeDiff, Nat.reduceLT, Nat.reduceSub, true_and, and_true, Bool.not_true, Bool.not_false, decide_true, decide_false, Int.reduceToNat, Int.reducePow, Int.reduceNeg, Int.cast_ofNat_Int, decide_eq_true_eq, Nat.zero_add, Nat.add_zero, Int.toNat_natCast, Int.reduceLT, Int.reduceLE, Int.reduceBNe, Int.reduceEq, Int.natCast_add, Nat.le_refl]
    refine draw2 F.tp (by omega) fun r1 g1 a1 b1 F1 L1 => ?_
    have F01 := F.trans F1
    obtain ⟨u, hu⟩ : ∃ u : Nat, min (near : Int) 1000 = (u : Int) := ⟨(min (near : Int) 1000).toNat, by omega⟩
    obtain ⟨v, hv⟩ : ∃ v : Nat, r1 = (v : Int) := ⟨r1.toNat, by omega⟩
    try simp -implicitDefEqProofs -dsimp (disch := first | omega | (simp only [List.length_set, List.length_append, List.length_cons, List.length_nil, List.length_map]; omega)) only [↓wp_ok, ↓wp_err, ↓wp_exc, ↓wp_bind, ↓wp_var, ↓wp_cst, ↓wp_bin, ↓wp_neg, ↓wp_cmp, ↓wp_and, ↓wp_or, ↓wp_not, ↓wp_ite, ↓wp_tup, ↓wp_lst, ↓wp_idx, ↓wp_slc, ↓wp_call, ↓wp_bi, ↓wp_bl, ↓wp_mt, ↓wp_mk, ↓wp_lr1, ↓wp_lr2, ↓wp_aa, ↓wp_tr2, ↓wp_maxD, ↓wp_srt, ↓wp_glc, ↓wp_rgN, ↓wp_srtD, ↓wp_lc2, ↓wp_i3, ↓wp_iv, ↓mt_pp, ↓mt_ppA, ↓wp_esn, ↓wp_esc, ↓wp_pn, ↓wp_pa, ↓wp_tv, ↓wp_ta, ↓wp_to, ↓wp_tn, ↓wp_lo, ↓wp_ld, ↓wp_lc, ↓wp_tsn, ↓wp_tsc, ↓wp_io, ↓wp_i1, ↓wp_i2, ↓wp_iz, ↓wp_ie, ↓wo_some, ↓wo_none, ↓br_t, ↓br_f, ↓wps_ok, ↓wps_st, ↓wb_add, ↓wb_sub, ↓wb_mulR, ↓wb_mulL, ↓wb_div, ↓wb_mod, ↓wb_pow, ↓wb_addT, ↓wb_mulT, ↓wb_addL, ↓wb_mulLs, ↓wn_neg, ↓wc_eq, ↓wc_ne, ↓wc_lt, ↓wc_le, ↓wc_gt, ↓wc_ge, ↓wc_in, ↓wc_nin, ↓wc_isN, ↓wc_notN, ↓item_int, ↓sl_tup, ↓sl_ref, ↓bi_len, ↓bi_abs, ↓bi_int, ↓bi_intb, ↓bi_isI, ↓bi_max, ↓bi_min, ↓bi_divmod, ↓bi_lcm, ↓bi_gcd, ↓bl_sum, ↓bl_tuple, ↓bl_list, ↓bl_len, ↓bl_max, ↓bl_min, ↓mt_app, ↓mt_ext, ↓mt_ix, ↓setIt_ref, ↓ws_n, ↓ws_c, ↓ws_expr, ↓ws_asg, ↓ws_set, ↓ws_aug, ↓ws_augS, ↓ws_bad, ↓ws_if, ↓ws_for, ↓ws_whl, ↓ws_ret, ↓ws_retN, ↓ws_brk, ↓ws_cont, ↓ws_pass, ↓sq_n, ↓sq_b, ↓sq_c, ↓sq_r, ↓sq_z, ↓fin_ret, ↓fin_next, ↓fin_rz, ↓isTy_cv, ↓isTy_rt, ↓tr_cv, ↓tr_rt, look_z, look_s, rgW_rg, isNon_non, isNon_bl, isNon_int, isNon_str, isNon_tup, isNon_fl, isNon_ref, eqW_int, eqW_bl, tr_non, tr_bl, tr_int, tr_tup, ixN_in, ixN_neg, mtW_ref, seqOf_ref, seqOf_tup, seqOf_fl, seqOf_rt, seqOf_cv, isNon_rt, isNon_cv, isTup_rt, isTup_cv, guOf_rt, guOf_cv, isTy_rt, isTy_cv, cv_eq, rt_eq, asg_rt, asg_cv, asg_var, asg_tup2, asg_tup3, isTy, guOf, isTup, intW, aug_add, aug_sub, augO_a, augO_s, lstAt_z, lstAt_s, lstAt_al, lstAt_e, lstAt_ar, Nat.sub_self, Nat.add_sub_cancel_left, Nat.reduceSubDiff, List.append_assoc, lstAt_set, lstAt_ne, toInts_ints, toInts_nil, toInts_cons, toBls_nil, toBls_cons, Option.map_some, List.set_cons_succ, List.set_cons_zero, List.getElem?_cons_zero, List.getElem?_cons_succ, List.getElem_cons_zero, List.getElem_cons_succ, List.length_cons, List.length_nil, List.length_set, List.length_append, List.length_map, List.nil_append, List.cons_append, List.append_nil, List.set_set, Nat.reduceAdd, Nat.reduceLeDiff, Nat.reduceLT, Nat.reduceSub, true_and, and_true, Bool.not_true, Bool.not_false, decide_true, decide_false, Int.reduceToNat, Int.reducePow, Int.reduceNeg, Int.cast_ofNat_Int, decide_eq_true_eq, Nat.zero_add, Nat.add_zero, Int.toNat_natCast, Int.reduceLT, Int.reduceLE, Int.reduceBNe, Int.reduceEq, Int.natCast_add, Nat.le_refl, hu, hv]
    refine wps_for (fun n : Nat => W.int n) [u, v] (fun _ ρ g' => g' = g1 ∧ ∃ x6 x7, ρ = [some (.ref p), some (cv 0 hd tn), some we, some wj, some (oW o), some (.int near), x6, x7]) (fun _ _ _ _ => guOk_nil) ?_ ⟨rfl, _, _, rfl⟩ ?_
    · rintro pre s suf ρ g' ee ⟨rfl, x6, x7, rfl⟩
      obtain ⟨n, w⟩ := wk_ex C s j
      have bi := by_iff C x w
      subst w1 w2
      try simp -implicitDefEqProofs -dsimp (disch := first | omega | (simp only [List.length_set, List.length_append, List.length_cons, List.length_nil, List.length_map]; omega)) only [↓wp_ok, ↓wp_err, ↓wp_exc, ↓wp_bind, ↓wp_var, ↓wp_cst, ↓wp_bin, ↓wp_neg, ↓wp_cmp, ↓wp_and, ↓wp_or, ↓wp_not, ↓wp_ite, ↓wp_tup, ↓wp_lst, ↓wp_idx, ↓wp_slc, ↓wp_call, ↓wp_bi, ↓wp_bl, ↓wp_mt, ↓wp_mk, ↓wp_lr1, ↓wp_lr2, ↓wp_aa, ↓wp_tr2, ↓wp_maxD, ↓wp_srt, ↓wp_glc, ↓wp_rgN, ↓wp_srtD, ↓wp_lc2, ↓wp_i3, ↓wp_iv, ↓mt_pp, ↓mt_ppA, ↓wp_esn, ↓wp_esc, ↓wp_pn, ↓wp_pa, ↓wp_tv, ↓wp_ta, ↓wp_to, ↓wp_tn, ↓wp_lo, ↓wp_ld, ↓wp_lc, ↓wp_tsn, ↓wp_tsc, ↓wp_io, ↓wp_i1, ↓wp_i2, ↓wp_iz, ↓wp_ie, ↓wo_some, ↓wo_none, ↓br_t, ↓br_f, ↓wps_ok, ↓wps_st, ↓wb_add, ↓wb_sub, ↓wb_mulR, ↓wb_mulL, ↓wb_div, ↓wb_mod, ↓wb_pow, ↓wb_addT, ↓wb_mulT, ↓wb_addL, ↓wb_mulLs, ↓wn_neg, ↓wc_eq, ↓wc_ne, ↓wc_lt, ↓wc_le, ↓wc_gt, ↓wc_ge, ↓wc_in, ↓wc_nin, ↓wc_isN, ↓wc_notN, ↓item_int, ↓sl_tup, ↓sl_ref, ↓bi_len, ↓bi_abs, ↓bi_int, ↓bi_intb, ↓bi_isI, ↓bi_max, ↓bi_min, ↓bi_divmod, ↓bi_lcm, ↓bi_gcd, ↓bl_sum, ↓bl_tuple, ↓bl_list, ↓bl_len, ↓bl_max, ↓bl_min, ↓mt_app, ↓mt_ext, ↓mt_ix, ↓setIt_ref, ↓ws_n, ↓ws_c, ↓ws_expr, ↓ws_asg, ↓ws_set, ↓ws_aug, ↓ws_augS, ↓ws_bad, ↓ws_if, ↓ws_for, ↓ws_whl, ↓ws_ret, ↓ws_retN, ↓ws_brk, ↓ws_cont, ↓ws_pass, ↓sq_n, ↓sq_b, ↓sq_c, ↓sq_r, ↓sq_z, ↓fin_ret, ↓fin_next, ↓fin_rz, ↓isTy_cv, ↓isTy_rt, ↓tr_cv, ↓tr_rt, look_z, look_s, rgW_rg, isNon_non, isNon_bl, isNon_int, isNon_str, isNon_tup, isNon_fl, isNon_ref, eqW_int, eqW_bl, tr_non, tr_bl, tr_int, tr_tup, ixN_in, ixN_neg, mtW_ref, seqOf_ref, seqOf_tup, seqOf_fl, seqOf_rt, seqOf_cv, isNon_rt, isNon_cv, isTup_rt, isTup_cv, guOf_rt, guOf_cv, isTy_rt, isTy_cv, cv_eq, rt_eq, asg_rt, asg_cv, asg_var, asg_tup2, asg_tup3, isTy, guOf, isTup, intW, aug_add, aug_sub, augO_a, augO_s, lstAt_z, lstAt_s, lstAt_al, lstAt_e, lstAt_ar, Nat.sub_self, Nat.add_sub_cancel_left, Nat.reduceSubDiff, List.append_assoc, lstAt_set, lstAt_ne, toInts_ints, toInts_nil, toInts_cons, toBls_nil, toBls_cons, Option.map_some, List.set_cons_succ, List.set_cons_zero, List.getElem?_cons_zero, List.getElem?_cons_succ, List.getElem_cons_zero, List.getElem_cons_succ, List.length_cons, List.length_nil, List.length_set, List.length_append, List.length_map, List.nil_append, List.cons_append, List.append_nil, List.set_set, Nat.reduceAdd, Nat.reduceLeDiff, Nat.reduceLT, Nat.reduceSub, true_and, and_true, Bool.not_true, Bool.not_false, decide_true, decide_false, Int.reduceToNat, Int.reducePow, Int.reduceNeg, Int.cast_ofNat_Int, decide_eq_true_eq, Nat.zero_add, Nat.add_zero, Int.toNat_natCast, Int.reduceLT, Int.reduceLE, Int.reduceBNe, Int.reduceEq, Int.natCast_add, Nat.le_refl, b__law_by_1]
      rw [finish_ok C w, wp_ok]
      cases o with
      | none =>
        have hn : ¬ (n ≤ e) := fun z => by obtain ⟨b, hb, _⟩ := bi.mp z; cases hb
        have e1 : decide ((n : Int) ≤ (e : Int)) = false := decide_eq_false (by omega)
        try simp -implicitDefEqProofs -dsimp (disch := first | omega | (simp only [List.length_set, List.length_append, List.length_cons, List.length_nil, List.length_map]; omega)) only [↓wp_ok, ↓wp_err, ↓wp_exc, ↓wp_bind, ↓wp_var, ↓wp_cst, ↓wp_bin, ↓wp_neg, ↓wp_cmp, ↓wp_and, ↓wp_or, ↓wp_not, ↓wp_ite, ↓wp_tup, ↓wp_lst, ↓wp_idx, ↓wp_slc, ↓wp_call, ↓wp_bi, ↓wp_bl, ↓wp_mt, ↓wp_mk, ↓wp_lr1, ↓wp_lr2, ↓wp_aa, ↓wp_tr2, ↓wp_maxD, ↓wp_srt, ↓wp_glc, ↓wp_rgN, ↓wp_srtD, ↓wp_lc2, ↓wp_i3, ↓wp_iv, ↓mt_pp, ↓mt_ppA, ↓wp_esn, ↓wp_esc, ↓wp_pn, ↓wp_pa, ↓wp_tv, ↓wp_ta, ↓wp_to, ↓wp_tn, ↓wp_lo, ↓wp_ld, ↓wp_lc, ↓wp_tsn, ↓wp_tsc, ↓wp_io, ↓wp_i1, ↓wp_i2, ↓wp_iz, ↓wp_ie, ↓wo_some, ↓wo_none, ↓br_t, ↓br_f, ↓wps_ok, ↓wps_st, ↓wb_add, ↓wb_sub, ↓wb_mulR, ↓wb_mulL, ↓wb_div, ↓wb_mod, ↓wb_pow, ↓wb_addT, ↓wb_mulT, ↓wb_addL, ↓wb_mulLs, ↓wn_neg, ↓wc_eq, ↓wc_ne, ↓wc_lt, ↓wc_le, ↓wc_gt, ↓wc_ge, ↓wc_in, ↓wc_nin, ↓wc_isN, ↓wc_notN, ↓item_int, ↓sl_tup, ↓sl_ref, ↓bi_len, ↓bi_abs, ↓bi_int, ↓bi_intb, ↓bi_isI, ↓bi_max, ↓bi_min, ↓bi_divmod, ↓bi_lcm, ↓bi_gcd, ↓bl_sum, ↓bl_tuple, ↓bl_list, ↓bl_len, ↓bl_max, ↓bl_min, ↓mt_app, ↓mt_ext, ↓mt_ix, ↓setIt_ref, ↓ws_n, ↓ws_c, ↓ws_expr, ↓ws_asg, ↓ws_set, ↓ws_aug, ↓ws_augS, ↓ws_bad, ↓ws_if, ↓ws_for, ↓ws_whl, ↓ws_ret, ↓ws_retN, ↓ws_brk, ↓ws_cont, ↓ws_pass, ↓sq_n, ↓sq_b, ↓sq_c, ↓sq_r, ↓sq_z, ↓fin_ret, ↓fin_next, ↓fin_rz, ↓isTy_cv, ↓isTy_rt, ↓tr_cv, ↓tr_rt, look_z, look_s, rgW_rg, isNon_non, isNon_bl, isNon_int, isNon_str, isNon_tup, isNon_fl, isNon_ref, eqW_int, eqW_bl, tr_non, tr_bl, tr_int, tr_tup, ixN_in, ixN_neg, mtW_ref, seqOf_ref, seqOf_tup, seqOf_fl, seqOf_rt, seqOf_cv, isNon_rt, isNon_cv, isTup_rt, isTup_cv, guOf_rt, guOf_cv, isTy_rt, isTy_cv, cv_eq, rt_eq, asg_rt, asg_cv, asg_var, asg_tup2, asg_tup3, isTy, guOf, isTup, intW, aug_add, aug_sub, augO_a, augO_s, lstAt_z, lstAt_s, lstAt_al, lstAt_e, lstAt_ar, Nat.sub_self, Nat.add_sub_cancel_left, Nat.reduceSubDiff, List.append_assoc, lstAt_set, lstAt_ne, toInts_ints, toInts_nil, toInts_cons, toBls_nil, toBls_cons, Option.map_some, List.set_cons_succ, List.set_cons_zero, List.getElem?_cons_zero, List.getElem?_cons_succ, List.getElem_cons_zero, List.getElem_cons_succ, List.length_cons, List.length_nil, List.length_set, List.length_append, List.length_map, List.nil_append, List.cons_append, List.append_nil, List.set_set, Nat.reduceAdd, Nat.reduceLeDiff, Nat.reduceLT, Nat.reduceSub, true_and, and_true, Bool.not_true, Bool.not_false, decide_true, decide_false, Int.reduceToNat, Int.reducePow, Int.reduceNeg, Int.cast_ofNat_Int, decide_eq_true_eq, Nat.zero_add, Nat.add_zero, Int.toNat_natCast, Int.reduceLT, Int.reduceLE, Int.reduceBNe, Int.reduceEq, Int.natCast_add, Nat.le_refl, oW, e1, eqW_bl]
        exact ⟨_, _, rfl⟩
      | some b =>
        have e1 : decide ((n : Int) ≤ (e : Int)) = decide ((s : Int) ≤ (b : Int)) := by
          refine decide_eq_decide.mpr ⟨fun z => ?_, fun z => ?_⟩
          · obtain ⟨b', hb, hs⟩ := bi.mp (by omega)
            cases hb; omega
          · have := bi.mpr ⟨b, rfl, by omega⟩; omega
        try simp -implicitDefEqProofs -dsimp (disch := first | omega | (simp only [List.length_set, List.length_append, List.length_cons, List.length_nil, List.length_map]; omega)) only [↓wp_ok, ↓wp_err, ↓wp_exc, ↓wp_bind, ↓wp_var, ↓wp_cst, ↓wp_bin, ↓wp_neg, ↓wp_cmp, ↓wp_and, ↓wp_or, ↓wp_not, ↓wp_ite, ↓wp_tup, ↓wp_lst, ↓wp_idx, ↓wp_slc, ↓wp_call, ↓wp_bi, ↓wp_bl, ↓wp_mt, ↓wp_mk, ↓wp_lr1, ↓wp_lr2, ↓wp_aa, ↓wp_tr2, ↓wp_maxD, ↓wp_srt, ↓wp_glc, ↓wp_rgN, ↓wp_srtD, ↓wp_lc2, ↓wp_i3, ↓wp_iv, ↓mt_pp, ↓mt_ppA, ↓wp_esn, ↓wp_esc, ↓wp_pn, ↓wp_pa, ↓wp_tv, ↓wp_ta, ↓wp_to, ↓wp_tn, ↓wp_lo, ↓wp_ld, ↓wp_lc, ↓wp_tsn, ↓wp_tsc, ↓wp_io, ↓wp_i1, ↓wp_i2, ↓wp_iz, ↓wp_ie, ↓wo_some, ↓wo_none, ↓br_t, ↓br_f, ↓wps_ok, ↓wps_st, ↓wb_add, ↓wb_sub, ↓wb_mulR, ↓wb_mulL, ↓wb_div, ↓wb_mod, ↓wb_pow, ↓wb_addT, ↓wb_mulT, ↓wb_addL, ↓wb_mulLs, ↓wn_neg, ↓wc_eq, ↓wc_ne, ↓wc_lt, ↓wc_le, ↓wc_gt, ↓wc_ge, ↓wc_in, ↓wc_nin, ↓wc_isN, ↓wc_notN, ↓item_int, ↓sl_tup, ↓sl_ref, ↓bi_len, ↓bi_abs, ↓bi_int, ↓bi_intb, ↓bi_isI, ↓bi_max, ↓bi_min, ↓bi_divmod, ↓bi_lcm, ↓bi_gcd, ↓bl_sum, ↓bl_tuple, ↓bl_list, ↓bl_len, ↓bl_max, ↓bl_min, ↓mt_app, ↓mt_ext, ↓mt_ix, ↓setIt_ref, ↓ws_n, ↓ws_c, ↓ws_expr, ↓ws_asg, ↓ws_set, ↓ws_aug, ↓ws_augS, ↓ws_bad, ↓ws_if, ↓ws_for, ↓ws_whl, ↓ws_ret, ↓ws_retN, ↓ws_brk, ↓ws_cont, ↓ws_pass, ↓sq_n, ↓sq_b, ↓sq_c, ↓sq_r, ↓sq_z, ↓fin_ret, ↓fin_next, ↓fin_rz, ↓isTy_cv, ↓isTy_rt, ↓tr_cv, ↓tr_rt, look_z, look_s, rgW_rg, isNon_non, isNon_bl, isNon_int, isNon_str, isNon_tup, isNon_fl, isNon_ref, eqW_int, eqW_bl, tr_non, tr_bl, tr_int, tr_tup, ixN_in, ixN_neg, mtW_ref, seqOf_ref, seqOf_tup, seqOf_fl, seqOf_rt, seqOf_cv, isNon_rt, isNon_cv, isTup_rt, isTup_cv, guOf_rt, guOf_cv, isTy_rt, isTy_cv, cv_eq, rt_eq, asg_rt, asg_cv, asg_var, asg_tup2, asg_tup3, isTy, guOf, isTup, intW, aug_add, aug_sub, augO_a, augO_s, lstAt_z, lstAt_s, lstAt_al, lstAt_e, lstAt_ar, Nat.sub_self, Nat.add_sub_cancel_left, Nat.reduceSubDiff, List.append_assoc, lstAt_set, lstAt_ne, toInts_ints, toInts_nil, toInts_cons, toBls_nil, toBls_cons, Option.map_some, List.set_cons_succ, List.set_cons_zero, List.getElem?_cons_zero, List.getElem?_cons_succ, List.getElem_cons_zero, List.getElem_cons_succ, List.length_cons, List.length_nil, List.length_set, List.length_append, List.length_map, List.nil_append, List.cons_append, List.append_nil, List.set_set, Nat.reduceAdd, Nat.reduceLeDiff, Nat.reduceLT, Nat.reduceSub, true_and, and_true, Bool.not_true, Bool.not_false, decide_true, decide_false, Int.reduceToNat, Int.reducePow, Int.reduceNeg, Int.cast_ofNat_Int, decide_eq_true_eq, Nat.zero_add, Nat.add_zero, Int.toNat_natCast, Int.reduceLT, Int.reduceLE, Int.reduceBNe, Int.reduceEq, Int.natCast_add, Nat.le_refl, oW, e1, eqW_bl]
        exact ⟨_, _, rfl⟩
    · rintro ρ g' ⟨rfl, x6, x7, rfl⟩
      try simp -implicitDefEqProofs -dsimp (disch := first | omega | (simp only [List.length_set, List.length_append, List.length_cons, List.length_nil, List.length_map]; omega)) only [↓wp_ok, ↓wp_err, ↓wp_exc, ↓wp_bind, ↓wp_var, ↓wp_cst, ↓wp_bin, ↓wp_neg, ↓wp_cmp, ↓wp_and, ↓wp_or, ↓wp_not, ↓wp_ite, ↓wp_tup, ↓wp_lst, ↓wp_idx, ↓wp_slc, ↓wp_call, ↓wp_bi, ↓wp_bl, ↓wp_mt, ↓wp_mk, ↓wp_lr1, ↓wp_lr2, ↓wp_aa, ↓wp_tr2, ↓wp_maxD, ↓wp_srt, ↓wp_glc, ↓wp_rgN, ↓wp_srtD, ↓wp_lc2, ↓wp_i3, ↓wp_iv, ↓mt_pp, ↓mt_ppA, ↓wp_esn, ↓wp_esc, ↓wp_pn, ↓wp_pa, ↓wp_tv, ↓wp_ta, ↓wp_to, ↓wp_tn, ↓wp_lo, ↓wp_ld, ↓wp_lc, ↓wp_tsn, ↓wp_tsc, ↓wp_io, ↓wp_i1, ↓wp_i2, ↓wp_iz, ↓wp_ie, ↓wo_some, ↓wo_none, ↓br_t, ↓br_f, ↓wps_ok, ↓wps_st, ↓wb_add, ↓wb_sub, ↓wb_mulR, ↓wb_mulL, ↓wb_div, ↓wb_mod, ↓wb_pow, ↓wb_addT, ↓wb_mulT, ↓wb_addL, ↓wb_mulLs, ↓wn_neg, ↓wc_eq, ↓wc_ne, ↓wc_lt, ↓wc_le, ↓wc_gt, ↓wc_ge, ↓wc_in, ↓wc_nin, ↓wc_isN, ↓wc_notN, ↓item_int, ↓sl_tup, ↓sl_ref, ↓bi_len, ↓bi_abs, ↓bi_int, ↓bi_intb, ↓bi_isI, ↓bi_max, ↓bi_min, ↓bi_divmod, ↓bi_lcm, ↓bi_gcd, ↓bl_sum, ↓bl_tuple, ↓bl_list, ↓bl_len, ↓bl_max, ↓bl_min, ↓mt_app, ↓mt_ext, ↓mt_ix, ↓setIt_ref, ↓ws_n, ↓ws_c, ↓ws_expr, ↓ws_asg, ↓ws_set, ↓ws_aug, ↓ws_augS, ↓ws_bad, ↓ws_if, ↓ws_for, ↓ws_whl, ↓ws_ret, ↓ws_retN, ↓ws_brk, ↓ws_cont, ↓ws_pass, ↓sq_n, ↓sq_b, ↓sq_c, ↓sq_r, ↓sq_z, ↓fin_ret, ↓fin_next, ↓fin_rz, ↓isTy_cv, ↓isTy_rt, ↓tr_cv, ↓tr_rt, look_z, look_s, rgW_rg, isNon_non, isNon_bl, isNon_int, isNon_str, isNon_tup, isNon_fl, isNon_ref, eqW_int, eqW_bl, tr_non, tr_bl, tr_int, tr_tup, ixN_in, ixN_neg, mtW_ref, seqOf_ref, seqOf_tup, seqOf_fl, seqOf_rt, seqOf_cv, isNon_rt, isNon_cv, isTup_rt, isTup_cv, guOf_rt, guOf_cv, isTy_rt, isTy_cv, cv_eq, rt_eq, asg_rt, asg_cv, asg_var, asg_tup2, asg_tup3, isTy, guOf, isTup, intW, aug_add, aug_sub, augO_a, augO_s, lstAt_z, lstAt_s, lstAt_al, lstAt_e, lstAt_ar, Nat.sub_self, Nat.add_sub_cancel_left, Nat.reduceSubDiff, List.append_assoc, lstAt_set, lstAt_ne, toInts_ints, toInts_nil, toInts_cons, toBls_nil, toBls_cons, Option.map_some, List.set_cons_succ, List.set_cons_zero, List.getElem?_cons_zero, List.getElem?_cons_succ, List.getElem_cons_zero, List.getElem_cons_succ, List.length_cons, List.length_nil, List.length_set, List.length_append, List.length_map, List.nil_append, List.cons_append, List.append_nil, List.set_set, Nat.reduceAdd, Nat.reduceLeDiff, Nat.reduceLT, Nat.reduceSub, true_and, and_true, Bool.not_true, Bool.not_false, decide_true, decide_false, Int.reduceToNat, Int.reducePow, Int.reduceNeg, Int.cast_ofNat_Int, decide_eq_true_eq, Nat.zero_add, Nat.add_zero, Int.toNat_natCast, Int.reduceLT, Int.reduceLE, Int.reduceBNe, Int.reduceEq, Int.natCast_add, Nat.le_refl]
      exact tidy_fr F01 T blw_bl fun g' F' L' => K g' F' L'
  cases o with
  | none =>
    try simp -implicitDefEqProofs -dsimp (disch := first | omega | (simp only [List.length_set, List.length_append, List.length_cons, List.length_nil, List.length_map]; omega)) only [↓wp_ok, ↓wp_err, ↓wp_exc, ↓wp_bind, ↓wp_var, ↓wp_cst, ↓wp_bin, ↓wp_neg, ↓wp_cmp, ↓wp_and, ↓wp_or, ↓wp_not, ↓wp_ite, ↓wp_tup, ↓wp_lst, ↓wp_idx, ↓wp_slc, ↓wp_call, ↓wp_bi, ↓wp_bl, ↓wp_mt, ↓wp_mk, ↓wp_lr1, ↓wp_lr2, ↓wp_aa, ↓wp_tr2, ↓wp_maxD, ↓wp_srt, ↓wp_glc, ↓wp_rgN, ↓wp_srtD, ↓wp_lc2, ↓wp_i3, ↓wp_iv, ↓mt_pp, ↓mt_ppA, ↓wp_esn, ↓wp_esc, ↓wp_pn, ↓wp_pa, ↓wp_tv, ↓wp_ta, ↓wp_to, ↓wp_tn, ↓wp_lo, ↓wp_ld, ↓wp_lc, ↓wp_tsn, ↓wp_tsc, ↓wp_io, ↓wp_i1, ↓wp_i2, ↓wp_iz, ↓wp_ie, ↓wo_some, ↓wo_none, ↓br_t, ↓br_f, ↓wps_ok, ↓wps_st, ↓wb_add, ↓wb_sub, ↓wb_mulR, ↓wb_mulL, ↓wb_div, ↓wb_mod, ↓wb_pow, ↓wb_addT, ↓wb_mulT, ↓wb_addL, ↓wb_mulLs, ↓wn_neg, ↓wc_eq, ↓wc_ne, ↓wc_lt, ↓wc_le, ↓wc_gt, ↓wc_ge, ↓wc_in, ↓wc_nin, ↓wc_isN, ↓wc_notN, ↓item_int, ↓sl_tup, ↓sl_ref, ↓bi_len, ↓bi_abs, ↓bi_int, ↓bi_intb, ↓bi_isI, ↓bi_max, ↓bi_min, ↓bi_divmod, ↓bi_lcm, ↓bi_gcd, ↓bl_sum, ↓bl_tuple, ↓bl_list, ↓bl_len, ↓bl_max, ↓bl_min, ↓mt_app, ↓mt_ext, ↓mt_ix, ↓setIt_ref, ↓ws_n, ↓ws_c, ↓ws_expr, ↓ws_asg, ↓ws_set, ↓ws_aug, ↓ws_augS, ↓ws_bad, ↓ws_if, ↓ws_for, ↓ws_whl, ↓ws_ret, ↓ws_retN, ↓ws_brk, ↓ws_cont, ↓ws_pass, ↓sq_n, ↓sq_b, ↓sq_c, ↓sq_r, ↓sq_z, ↓fin_ret, ↓fin_next, ↓fin_rz, ↓isTy_cv, ↓isTy_rt, ↓tr_cv, ↓tr_rt, look_z, look_s, rgW_rg, isNon_non, isNon_bl, isNon_int, isNon_str, isNon_tup, isNon_fl, isNon_ref, eqW_int, eqW_bl, tr_non, tr_bl, tr_int, tr_tup, ixN_in, ixN_neg, mtW_ref, seqOf_ref, seqOf_tup, seqOf_fl, seqOf_rt, seqOf_cv, isNon_rt, isNon_cv, isTup_rt, isTup_cv, guOf_rt, guOf_cv, isTy_rt, isTy_cv, cv_eq, rt_eq, asg_rt, asg_cv, asg_var, asg_tup2, asg_tup3, isTy, guOf, isTup, intW, aug_add, aug_sub, augO_a, augO_s, lstAt_z, lstAt_s, lstAt_al, lstAt_e, lstAt_ar, Nat.sub_self, Nat.add_sub_cancel_left, Nat.reduceSubDiff, List.append_assoc, lstAt_set, lstAt_ne, toInts_ints, toInts_nil, toInts_cons, toBls_nil, toBls_cons, Option.map_some, List.set_cons_succ, List.set_cons_zero, List.getElem?_cons_zero, List.getElem?_cons_succ, List.getElem_cons_zero, List.getElem_cons_succ, List.length_cons, List.length_nil, List.length_set, List.length_append, List.length_map, List.nil_append, List.cons_append, List.append_nil, List.set_set, Nat.reduceAdd, Nat.reduceLeDiff, Nat.reduceLT, Nat.reduceSub, true_and, and_true, Bool.not_true, Bool.not_false, decide_true, decide_false, Int.reduceToNat, Int.reducePow, Int.reduceNeg, Int.cast_ofNat_Int, decide_eq_true_eq, Nat.zero_add, Nat.add_zero, Int.toNat_natCast, Int.reduceLT, Int.reduceLE, Int.reduceBNe, Int.reduceEq, Int.natCast_add, Nat.le_refl, oW]
    have := rest h 0 (Fr.refl T)
    try simp -implicitDefEqProofs -dsimp (disch := first | omega | (simp only [List.length_set, List.length_append, List.length_cons, List.length_nil, List.length_map]; omega)) only [↓wp_ok, ↓wp_err, ↓wp_exc, ↓wp_bind, ↓wp_var, ↓wp_cst, ↓wp_bin, ↓wp_neg, ↓wp_cmp, ↓wp_and, ↓wp_or, ↓wp_not, ↓wp_ite, ↓wp_tup, ↓wp_lst, ↓wp_idx, ↓wp_slc, ↓wp_call, ↓wp_bi, ↓wp_bl, ↓wp_mt, ↓wp_mk, ↓wp_lr1, ↓wp_lr2, ↓wp_aa, ↓wp_tr2, ↓wp_maxD, ↓wp_srt, ↓wp_glc, ↓wp_rgN, ↓wp_srtD, ↓wp_lc2, ↓wp_i3, ↓wp_iv, ↓mt_pp, ↓mt_ppA, ↓wp_esn, ↓wp_esc, ↓wp_pn, ↓wp_pa, ↓wp_tv, ↓wp_ta, ↓wp_to, ↓wp_tn, ↓wp_lo, ↓wp_ld, ↓wp_lc, ↓wp_tsn, ↓wp_tsc, ↓wp_io, ↓wp_i1, ↓wp_i2, ↓wp_iz, ↓wp_ie, ↓wo_some, ↓wo_none, ↓br_t, ↓br_f, ↓wps_ok, ↓wps_st, ↓wb_add, ↓wb_sub, ↓wb_mulR, ↓wb_mulL, ↓wb_div, ↓wb_mod, ↓wb_pow, ↓wb_addT, ↓wb_mulT, ↓wb_addL, ↓wb_mulLs, ↓wn_neg, ↓wc_eq, ↓wc_ne, ↓wc_lt, ↓wc_le, ↓wc_gt, ↓wc_ge, ↓wc_in, ↓wc_nin, ↓wc_isN, ↓wc_notN, ↓item_int, ↓sl_tup, ↓sl_ref, ↓bi_len, ↓bi_abs, ↓bi_int, ↓bi_intb, ↓bi_isI, ↓bi_max, ↓bi_min, ↓bi_divmod, ↓bi_lcm, ↓bi_gcd, ↓bl_sum, ↓bl_tuple, ↓bl_list, ↓bl_len, ↓bl_max, ↓bl_min, ↓mt_app, ↓mt_ext, ↓mt_ix, ↓setIt_ref, ↓ws_n, ↓ws_c, ↓ws_expr, ↓ws_asg, ↓ws_set, ↓ws_aug, ↓ws_augS, ↓ws_bad, ↓ws_if, ↓ws_for, ↓ws_whl, ↓ws_ret, ↓ws_retN, ↓ws_brk, ↓ws_cont, ↓ws_pass, ↓sq_n, ↓sq_b, ↓sq_c, ↓sq_r, ↓sq_z, ↓fin_ret, ↓fin_next, ↓fin_rz, ↓isTy_cv, ↓isTy_rt, ↓tr_cv, ↓tr_rt, look_z, look_s, rgW_rg, isNon_non, isNon_bl, isNon_int, isNon_str, isNon_tup, isNon_fl, isNon_ref, eqW_int, eqW_bl, tr_non, tr_bl, tr_int, tr_tup, ixN_in, ixN_neg, mtW_ref, seqOf_ref, seqOf_tup, seqOf_fl, seqOf_rt, seqOf_cv, isNon_rt, isNon_cv, isTup_rt, isTup_cv, guOf_rt, guOf_cv, isTy_rt, isTy_cv, cv_eq, rt_eq, asg_rt, asg_cv, asg_var, asg_tup2, asg_tup3, isTy, guOf, isTup, intW, aug_add, aug_sub, augO_a, augO_s, lstAt_z, lstAt_s, lstAt_al, lstAt_e, lstAt_ar, Nat.sub_self, Nat.add_sub_cancel_left, Nat.reduceSubDiff, List.append_assoc, lstAt_set, lstAt_ne, toInts_ints, toInts_nil, toInts_cons, toBls_nil, toBls_cons, Option.map_some, List.set_cons_succ, List.set_cons_zero, List.getElem?_cons_zero, List.getElem?_cons_succ, List.getElem_cons_zero, List.getElem_cons_succ, List.length_cons, List.length_nil, List.length_set, List.length_append, List.length_map, List.nil_append, List.cons_append, List.append_nil, List.set_set, Nat.reduceAdd, Nat.reduceLeDiff, Nat.reduceLT, Nat.reduceSub, true_and, and_true, Bool.not_true, Bool.not_false, decide_true, decide_false, Int.reduceToNat, Int.reducePow, Int.reduceNeg, Int.cast_ofNat_Int, decide_eq_true_eq, Nat.zero_add, Nat.add_zero, Int.toNat_natCast, Int.reduceLT, Int.reduceLE, Int.reduceBNe, Int.reduceEq, Int.natCast_add, Nat.le_refl, Int.natCast_zero] at this
    exact this
  | some b =>
    try simp -implicitDefEqProofs -dsimp (disch := first | omega | (simp only [List.length_set, List.length_append, List.length_cons, List.length_nil, List.length_map]; omega)) only [↓wp_ok, ↓wp_err, ↓wp_exc, ↓wp_bind, ↓wp_var, ↓wp_cst, ↓wp_bin, ↓wp_neg, ↓wp_cmp, ↓wp_and, ↓wp_or, ↓wp_not, ↓wp_ite, ↓wp_tup, ↓wp_lst, ↓wp_idx, ↓wp_slc, ↓wp_call, ↓wp_bi, ↓wp_bl, ↓wp_mt, ↓wp_mk, ↓wp_lr1, ↓wp_lr2, ↓wp_aa, ↓wp_tr2, ↓wp_maxD, ↓wp_srt, ↓wp_glc, ↓wp_rgN, ↓wp_srtD, ↓wp_lc2, ↓wp_i3, ↓wp_iv, ↓mt_pp, ↓mt_ppA, ↓wp_esn, ↓wp_esc, ↓wp_pn, ↓wp_pa, ↓wp_tv, ↓wp_ta, ↓wp_to, ↓wp_tn, ↓wp_lo, ↓wp_ld, ↓wp_lc, ↓wp_tsn, ↓wp_tsc, ↓wp_io, ↓wp_i1, ↓wp_i2, ↓wp_iz, ↓wp_ie, ↓wo_some, ↓wo_none, ↓br_t, ↓br_f, ↓wps_ok, ↓wps_st, ↓wb_add, ↓wb_sub, ↓wb_mulR, ↓wb_mulL, ↓wb_div, ↓wb_mod, ↓wb_pow, ↓wb_addT, ↓wb_mulT, ↓wb_addL, ↓wb_mulLs, ↓wn_neg, ↓wc_eq, ↓wc_ne, ↓wc_lt, ↓wc_le, ↓wc_gt, ↓wc_ge, ↓wc_in, ↓wc_nin, ↓wc_isN, ↓wc_notN, ↓item_int, ↓sl_tup, ↓sl_ref, ↓bi_len, ↓bi_abs, ↓bi_int, ↓bi_intb, ↓bi_isI, ↓bi_max, ↓bi_min, ↓bi_divmod, ↓bi_lcm, ↓bi_gcd, ↓bl_sum, ↓bl_tuple, ↓bl_list, ↓bl_len, ↓bl_max, ↓bl_min, ↓mt_app, ↓mt_ext, ↓mt_ix, ↓setIt_ref, ↓ws_n, ↓ws_c, ↓ws_expr, ↓ws_asg, ↓ws_set, ↓ws_aug, ↓ws_augS, ↓ws_bad, ↓ws_if, ↓ws_for, ↓ws_whl, ↓ws_ret, ↓ws_retN, ↓ws_brk, ↓ws_cont, ↓ws_pass, ↓sq_n, ↓sq_b, ↓sq_c, ↓sq_r, ↓sq_z, ↓fin_ret, ↓fin_next, ↓fin_rz, ↓isTy_cv, ↓isTy_rt, ↓tr_cv, ↓tr_rt, look_z, look_s, rgW_rg, isNon_non, isNon_bl, isNon_int, isNon_str, isNon_tup, isNon_fl, isNon_ref, eqW_int, eqW_bl, tr_non, tr_bl, tr_int, tr_tup, ixN_in, ixN_neg, mtW_ref, seqOf_ref, seqOf_tup, seqOf_fl, seqOf_rt, seqOf_cv, isNon_rt, isNon_cv, isTup_rt, isTup_cv, guOf_rt, guOf_cv, isTy_rt, isTy_cv, cv_eq, rt_eq, asg_rt, asg_cv, asg_var, asg_tup2, asg_tup3, isTy, guOf, isTup, intW, aug_add, aug_sub, augO_a, augO_s, lstAt_z, lstAt_s, lstAt_al, lstAt_e, lstAt_ar, Nat.sub_self, Nat.add_sub_cancel_left, Nat.reduceSubDiff, List.append_assoc, lstAt_set, lstAt_ne, toInts_ints, toInts_nil, toInts_cons, toBls_nil, toBls_cons, Option.map_some, List.set_cons_succ, List.set_cons_zero, List.getElem?_cons_zero, List.getElem?_cons_succ, List.getElem_cons_zero, List.getElem_cons_succ, List.length_cons, List.length_nil, List.length_set, List.length_append, List.length_map, List.nil_append, List.cons_append, List.append_nil, List.set_set, Nat.reduceAdd, Nat.reduceLeDiff, Nat.reduceLT, Nat.reduceSub, true_and, and_true, Bool.not_true, Bool.not_false, decide_true, decide_false, Int.reduceToNat, Int.reducePow, Int.reduceNeg, Int.cast_ofNat_Int, decide_eq_true_eq, Nat.zero_add, Nat.add_zero, Int.toNat_natCast, Int.reduceLT, Int.reduceLE, Int.reduceBNe, Int.reduceEq, Int.natCast_add, Nat.le_refl, oW]
    refine draw2 T (by omega) fun r0 g0 a0 b0 F0 L0 => ?_
    obtain ⟨near, hn⟩ : ∃ n : Nat, max 0 ((b : Int) - 1 + r0) = (n : Int) := ⟨(max 0 ((b : Int) - 1 + r0)).toNat, by omega⟩
    have := rest g0 near F0
    try simp -implicitDefEqProofs -dsimp (disch := first | omega | (simp only [List.length_set, List.length_append, List.length_cons, List.length_nil, List.length_map]; omega)) only [↓wp_ok, ↓wp_err, ↓wp_exc, ↓wp_bind, ↓wp_var, ↓wp_cst, ↓wp_bin, ↓wp_neg, ↓wp_cmp, ↓wp_and, ↓wp_or, ↓wp_not, ↓wp_ite, ↓wp_tup, ↓wp_lst, ↓wp_idx, ↓wp_slc, ↓wp_call, ↓wp_bi, ↓wp_bl, ↓wp_mt, ↓wp_mk, ↓wp_lr1, ↓wp_lr2, ↓wp_aa, ↓wp_tr2, ↓wp_maxD, ↓wp_srt, ↓wp_glc, ↓wp_rgN, ↓wp_srtD, ↓wp_lc2, ↓wp_i3, ↓wp_iv, ↓mt_pp, ↓mt_ppA, ↓wp_esn, ↓wp_esc, ↓wp_pn, ↓wp_pa, ↓wp_tv, ↓wp_ta, ↓wp_to, ↓wp_tn, ↓wp_lo, ↓wp_ld, ↓wp_lc, ↓wp_tsn, ↓wp_tsc, ↓wp_io, ↓wp_i1, ↓wp_i2, ↓wp_iz, ↓wp_ie, ↓wo_some, ↓wo_none, ↓br_t, ↓br_f, ↓wps_ok, ↓wps_st, ↓wb_add, ↓wb_sub, ↓wb_mulR, ↓wb_mulL, ↓wb_div, ↓wb_mod, ↓wb_pow, ↓wb_addT, ↓wb_mulT, ↓wb_addL, ↓wb_mulLs, ↓wn_neg, ↓wc_eq, ↓wc_ne, ↓wc_lt, ↓wc_le, ↓wc_gt, ↓wc_ge, ↓wc_in, ↓wc_nin, ↓wc_isN, ↓wc_notN, ↓item_int, ↓sl_tup, ↓sl_ref, ↓bi_len, ↓bi_abs, ↓bi_int, ↓bi_intb, ↓bi_isI, ↓bi_max, ↓bi_min, ↓bi_divmod, ↓bi_lcm, ↓bi_gcd, ↓bl_sum, ↓bl_tuple, ↓bl_list, ↓bl_len, ↓bl_max, ↓bl_min, ↓mt_app, ↓mt_ext, ↓mt_ix, ↓setIt_ref, ↓ws_n, ↓ws_c, ↓ws_expr, ↓ws_asg, ↓ws_set, ↓ws_aug, ↓ws_augS, ↓ws_bad, ↓ws_if, ↓ws_for, ↓ws_whl, ↓ws_ret, ↓ws_retN, ↓ws_brk, ↓ws_cont, ↓ws_pass, ↓sq_n, ↓sq_b, ↓sq_c, ↓sq_r, ↓sq_z, ↓fin_ret, ↓fin_next, ↓fin_rz, ↓isTy_cv, ↓isTy_rt, ↓tr_cv, ↓tr_rt, look_z, look_s, rgW_rg, isNon_non, isNon_bl, isNon_int, isNon_str, isNon_tup, isNon_fl, isNon_ref, eqW_int, eqW_bl, tr_non, tr_bl, tr_int, tr_tup, ixN_in, ixN_neg, mtW_ref, seqOf_ref, seqOf_tup, seqOf_fl, seqOf_rt, seqOf_cv, isNon_rt, isNon_cv, isTup_rt, isTup_cv, guOf_rt, guOf_cv, isTy_rt, isTy_cv, cv_eq, rt_eq, asg_rt, asg_cv, asg_var, asg_tup2, asg_tup3, isTy, guOf, isTup, intW, aug_add, aug_sub, augO_a, augO_s, lstAt_z, lstAt_s, lstAt_al, lstAt_e, lstAt_ar, Nat.sub_self, Nat.add_sub_cancel_left, Nat.reduceSubDiff, List.append_assoc, lstAt_set, lstAt_ne, toInts_ints, toInts_nil, toInts_cons, toBls_nil, toBls_cons, Option.map_some, List.set_cons_succ, List.set_cons_zero, List.getElem?_cons_zero, List.getElem?_cons_succ, List.getElem_cons_zero, List.getElem_cons_succ, List.length_cons, List.length_nil, List.length_set, List.length_append, List.length_map, List.nil_append, List.cons_append, List.append_nil, List.set_set, Nat.reduceAdd, Nat.reduceLeDiff, Nat.reduceLT, Nat.reduceSub, true_and, and_true, Bool.not_true, Bool.not_false, decide_true, decide_false, Int.reduceToNat, Int.reducePow, Int.reduceNeg, Int.cast_ofNat_Int, decide_eq_true_eq, Nat.zero_add, Nat.add_zero, Int.toNat_natCast, Int.reduceLT, Int.reduceLE, Int.reduceBNe, Int.reduceEq, Int.natCast_add, Nat.le_refl, hn]
    try simp -implicitDefEqProofs -dsimp (disch := first | omega | (simp only [List.length_set, List.length_append, List.length_cons, List.length_nil, List.length_map]; omega)) only [↓wp_ok, ↓wp_err, ↓wp_exc, ↓wp_bind, ↓wp_var, ↓wp_cst, ↓wp_bin, ↓wp_neg, ↓wp_cmp, ↓wp_and, ↓wp_or, ↓wp_not, ↓wp_ite, ↓wp_tup, ↓wp_lst, ↓wp_idx, ↓wp_slc, ↓wp_call, ↓wp_bi, ↓wp_bl, ↓wp_mt, ↓wp_mk, ↓wp_lr1, ↓wp_lr2, ↓wp_aa, ↓wp_tr2, ↓wp_maxD, ↓wp_srt, ↓wp_glc, ↓wp_rgN, ↓wp_srtD, ↓wp_lc2, ↓wp_i3, ↓wp_iv, ↓mt_pp, ↓mt_ppA, ↓wp_esn, ↓wp_esc, ↓wp_pn, ↓wp_pa, ↓wp_tv, ↓wp_ta, ↓wp_to, ↓wp_tn, ↓wp_lo, ↓wp_ld, ↓wp_lc, ↓wp_tsn, ↓wp_tsc, ↓wp_io, ↓wp_i1, ↓wp_i2, ↓wp_iz, ↓wp_ie, ↓wo_some, ↓wo_none, ↓br_t, ↓br_f, ↓wps_ok, ↓wps_st, ↓wb_add, ↓wb_sub, ↓wb_mulR, ↓wb_mulL, ↓wb_div, ↓wb_mod, ↓wb_pow, ↓wb_addT, ↓wb_mulT, ↓wb_addL, ↓wb_mulLs, ↓wn_neg, ↓wc_eq, ↓wc_ne, ↓wc_lt, ↓wc_le, ↓wc_gt, ↓wc_ge, ↓wc_in, ↓wc_nin, ↓wc_isN, ↓wc_notN, ↓item_int, ↓sl_tup, ↓sl_ref, ↓bi_len, ↓bi_abs, ↓bi_int, ↓bi_intb, ↓bi_isI, ↓bi_max, ↓bi_min, ↓bi_divmod, ↓bi_lcm, ↓bi_gcd, ↓bl_sum, ↓bl_tuple, ↓bl_list, ↓bl_len, ↓bl_max, ↓bl_min, ↓mt_app, ↓mt_ext, ↓mt_ix, ↓setIt_ref, ↓ws_n, ↓ws_c, ↓ws_expr, ↓ws_asg, ↓ws_set, ↓ws_aug, ↓ws_augS, ↓ws_bad, ↓ws_if, ↓ws_for, ↓ws_whl, ↓ws_ret, ↓ws_retN, ↓ws_brk, ↓ws_cont, ↓ws_pass, ↓sq_n, ↓sq_b, ↓sq_c, ↓sq_r, ↓sq_z, ↓fin_ret, ↓fin_next, ↓fin_rz, ↓isTy_cv, ↓isTy_rt, ↓tr_cv, ↓tr_rt, look_z, look_s, rgW_rg, isNon_non, isNon_bl, isNon_int, isNon_str, isNon_tup, isNon_fl, isNon_ref, eqW_int, eqW_bl, tr_non, tr_bl, tr_int, tr_tup, ixN_in, ixN_neg, mtW_ref, seqOf_ref, seqOf_tup, seqOf_fl, seqOf_rt, seqOf_cv, isNon_rt, isNon_cv, isTup_rt, isTup_cv, guOf_rt, guOf_cv, isTy_rt, isTy_cv, cv_eq, rt_eq, asg_rt, asg_cv, asg_var, asg_tup2, asg_tup3, isTy, guOf, isTup, intW, aug_add, aug_sub, augO_a, augO_s, lstAt_z, lstAt_s, lstAt_al, lstAt_e, lstAt_ar, Nat.sub_self, Nat.add_sub_cancel_left, Nat.reduceSubDiff, List.append_assoc, lstAt_set, lstAt_ne, toInts_ints, toInts_nil, toInts_cons, toBls_nil, toBls_cons, Option.map_some, List.set_cons_succ, List.set_cons_zero, List.getElem?_cons_zero, List.getElem?_cons_succ, List.getElem_cons_zero, List.getElem_cons_succ, List.length_cons, List.length_nil, List.length_set, List.length_append, List.length_map, List.nil_append, List.cons_append, List.append_nil, List.set_set, Nat.reduceAdd, Nat.reduceLeDiff, Nat.reduceLT, Nat.reduceSub, true_and, and_true, Bool.not_true, Bool.not_false, decide_true, decide_false, Int.reduceToNat, Int.reducePow, Int.reduceNeg, Int.cast_ofNat_Int, decide_eq_true_eq, Nat.zero_add, Nat.add_zero, Int.toNat_natCast, Int.reduceLT, Int.reduceLE, Int.reduceBNe, Int.reduceEq, Int.natCast_add, Nat.le_refl] at this
    exact this
end Law

namespace Law
open PySem Ev
theorem amount_wp {k q p : Nat} {h : Hw} {m : Int} {Q : W → Hw → Prop} {E : Ex → Hw → Prop} (T : Tp q p h) (hm : 100 ≤ m ∧ m ≤ 1000) (K : ∀ (r : Nat) (h' : Hw), r ≤ 1000 → Fr q p h h' → h'.length = h.length → Q (.int r) h') : wp (PhiN ds (k + 2) 14 [.ref p, .int m] h) Q E := by
  have hp := T.lt
  refine go__law_amount ?_
  unfold s__law_amount
  try simp -implicitDefEqProofs -dsimp (disch := first | omega | (simp only [List.length_set, List.length_append, List.length_cons, List.length_nil, List.length_map]; omega)) only [↓wp_ok, ↓wp_err, ↓wp_exc, ↓wp_bind, ↓wp_var, ↓wp_cst, ↓wp_bin, ↓wp_neg, ↓wp_cmp, ↓wp_and, ↓wp_or, ↓wp_not, ↓wp_ite, ↓wp_tup, ↓wp_lst, ↓wp_idx, ↓wp_slc, ↓wp_call, ↓wp_bi, ↓wp_bl, ↓wp_mt, ↓wp_mk, ↓wp_lr1, ↓wp_lr2, ↓wp_aa, ↓wp_tr2, ↓wp_maxD, ↓wp_srt, ↓wp_glc, ↓wp_rgN, ↓wp_srtD, ↓wp_lc2, ↓wp_i3, ↓wp_iv, ↓mt_pp, ↓mt_ppA, ↓wp_esn, ↓wp_esc, ↓wp_pn, ↓wp_pa, ↓wp_tv, ↓wp_ta, ↓wp_to, ↓wp_tn, ↓wp_lo, ↓wp_ld, ↓wp_lc, ↓wp_tsn, ↓wp_tsc, ↓wp_io, ↓wp_i1, ↓wp_i2, ↓wp_iz, ↓wp_ie, ↓wo_some, ↓wo_none, ↓br_t, ↓br_f, ↓wps_ok, ↓wps_st, ↓wb_add, ↓wb_sub, ↓wb_mulR, ↓wb_mulL, ↓wb_div, ↓wb_mod, ↓wb_pow, ↓wb_addT, ↓wb_mulT, ↓wb_addL, ↓wb_mulLs, ↓wn_neg, ↓wc_eq, ↓wc_ne, ↓wc_lt, ↓wc_le, ↓wc_gt, ↓wc_ge, ↓wc_in, ↓wc_nin, ↓wc_isN, ↓wc_notN, ↓item_int, ↓sl_tup, ↓sl_ref, ↓bi_len, ↓bi_abs, ↓bi_int, ↓bi_intb, ↓bi_isI, ↓bi_max, ↓bi_min, ↓bi_divmod, ↓bi_lcm, ↓bi_gcd, ↓bl_sum, ↓bl_tuple, ↓bl_list, ↓bl_len, ↓bl_max, ↓bl_min, ↓mt_app, ↓mt_ext, ↓mt_ix, ↓setIt_ref, ↓ws_n, ↓ws_c, ↓ws_expr, ↓ws_asg, ↓ws_set, ↓ws_aug, ↓ws_augS, ↓ws_bad, ↓ws_if, ↓ws_for, ↓ws_whl, ↓ws_ret, ↓ws_retN, ↓ws_brk, ↓ws_cont, ↓ws_pass, ↓sq_n, ↓sq_b, ↓sq_c, ↓sq_r, ↓sq_z, ↓fin_ret, ↓fin_next, ↓fin_rz, ↓isTy_cv, ↓isTy_rt, ↓tr_cv, ↓tr_rt, look_z, look_s, rgW_rg, isNon_non, isNon_bl, isNon_int, isNon_str, isNon_tup, isNon_fl, isNon_ref, eqW_int, eqW_bl, tr_non, tr_bl, tr_int, tr_tup, ixN_in, ixN_neg, mtW_ref, seqOf_ref, seqOf_tup, seqOf_fl, seqOf_rt, seqOf_cv, isNon_rt, isNon_cv, isTup_rt, isTup_cv, guOf_rt, guOf_cv, isTy_rt, isTy_cv, cv_eq, rt_eq, asg_rt, asg_cv, asg_var, asg_tup2, asg_tup3, isTy, guOf, isTup, intW, aug_add, aug_sub, augO_a, augO_s, lstAt_z, lstAt_s, lstAt_al, lstAt_e, lstAt_ar, Nat.sub_self, Nat.add_sub_cancel_left, Nat.reduceSubDiff, List.append_assoc, lstAt_set, lstAt_ne, toInts_ints, toInts_nil, toInts_cons, toBls_nil, toBls_cons, Option.map_some, List.set_cons_succ, List.set_cons_zero, List.getElem?_cons_zero, List.getElem?_cons_succ, List.getElem_cons_zero, List.getElem_cons_succ, List.length_cons, List.length_nil, List.length_set, List.length_append, List.length_map, List.nil_append, List.cons_append, List.append_nil, List.set_set, Nat.reduceAdd, Nat.reduceLeDiff, Nat.reduceLT, Nat.reduceSub, true_and, and_true, Bool.not_true, Bool.not_false, decide_true, decide_false, Int.reduceToNat, Int.reducePow, Int.reduceNeg, Int.cast_ofNat_Int, decide_eq_true_eq, Nat.zero_add, Nat.add_zero, Int.toNat_natCast, Int.reduceLT, Int.reduceLE, Int.reduceBNe, Int.reduceEq, Int.natCast_add, Nat.le_refl]
  refine draw2 T (by omega) fun r1 g1 a1 b1 F1 L1 => ?_
  try simp -implicitDefEqProofs -dsimp (disch := first | omega | (simp only [List.length_set, List.length_append, List.length_cons, List.length_nil, List.length_map]; omega)) only [↓wp_ok, ↓wp_err, ↓wp_exc, ↓wp_bind, ↓wp_var, ↓wp_cst, ↓wp_bin, ↓wp_neg, ↓wp_cmp, ↓wp_and, ↓wp_or, ↓wp_not, ↓wp_ite, ↓wp_tup, ↓wp_lst, ↓wp_idx, ↓wp_slc, ↓wp_call, ↓wp_bi, ↓wp_bl, ↓wp_mt, ↓wp_mk, ↓wp_lr1, ↓wp_lr2, ↓wp_aa, ↓wp_tr2, ↓wp_maxD, ↓wp_srt, ↓wp_glc, ↓wp_rgN, ↓wp_srtD, ↓wp_lc2, ↓wp_i3, ↓wp_iv, ↓mt_pp, ↓mt_ppA, ↓wp_esn, ↓wp_esc, ↓wp_pn, ↓wp_pa, ↓wp_tv, ↓wp_ta, ↓wp_to, ↓wp_tn, ↓wp_lo, ↓wp_ld, ↓wp_lc, ↓wp_tsn, ↓wp_tsc, ↓wp_io, ↓wp_i1, ↓wp_i2, ↓wp_iz, ↓wp_ie, ↓wo_some, ↓wo_none, ↓br_t, ↓br_f, ↓wps_ok, ↓wps_st, ↓wb_add, ↓wb_sub, ↓wb_mulR, ↓wb_mulL, ↓wb_div, ↓wb_mod, ↓wb_pow, ↓wb_addT, ↓wb_mulT, ↓wb_addL, ↓wb_mulLs, ↓wn_neg, ↓wc_eq, ↓wc_ne, ↓wc_lt, ↓wc_le, ↓wc_gt, ↓wc_ge, ↓wc_in, ↓wc_nin, ↓wc_isN, ↓wc_notN, ↓item_int, ↓sl_tup, ↓sl_ref, ↓bi_len, ↓bi_abs, ↓bi_int, ↓bi_intb, ↓bi_isI, ↓bi_max, ↓bi_min, ↓bi_divmod, ↓bi_lcm, ↓bi_gcd, ↓bl_sum, ↓bl_tuple, ↓bl_list, ↓bl_len, ↓bl_max, ↓bl_min, ↓mt_app, ↓mt_ext, ↓mt_ix, ↓setIt_ref, ↓ws_n, ↓ws_c, ↓ws_expr, ↓ws_asg, ↓ws_set, ↓ws_aug, ↓ws_augS, ↓ws_bad, ↓ws_if, ↓ws_for, ↓ws_whl, ↓ws_ret, ↓ws_retN, ↓ws_brk, ↓ws_cont, ↓ws_pass, ↓sq_n, ↓sq_b, ↓sq_c, ↓sq_r, ↓sq_z, ↓fin_ret, ↓fin_next, ↓fin_rz, ↓isTy_cv, ↓isTy_rt, ↓tr_cv, ↓tr_rt, look_z, look_s, rgW_rg, isNon_non, isNon_bl, isNon_int, isNon_str, isNon_tup, isNon_fl, isNon_ref, eqW_int, eqW_bl, tr_non, tr_bl, tr_int, tr_tup, ixN_in, ixN_neg, mtW_ref, seqOf_ref, seqOf_tup, seqOf_fl, seqOf_rt, seqOf_cv, isNon_rt, isNon_cv, isTup_rt, isTup_cv, guOf_rt, guOf_cv, isTy_rt, isTy_cv, cv_eq, rt_eq, asg_rt, asg_cv, asg_var, asg_tup2, asg_tup3, isTy, guOf, isTup, intW, aug_add, aug_sub, augO_a, augO_s, lstAt_z, lstAt_s, lstAt_al, lstAt_e, lstAt_ar, Nat.sub_self, Nat.add_sub_cancel_left, Nat.reduceSubDiff, List.append_assoc, lstAt_set, lstAt_ne, toInts_ints, toInts_nil, toInts_cons, toBls_nil, toBls_cons, Option.map_some, List.set_cons_succ, List.set_cons_zero, List.getElem?_cons_zero, List.getElem?_cons_succ, List.getElem_cons_zero, List.getElem_cons_succ, List.length_cons, List.length_nil, List.length_set, List.length_append, List.length_map, List.nil_append, List.cons_append, List.append_nil, List.set_set, Nat.reduceAdd, Nat.reduceLeDiff, Nat.reduceLT, Nat.reduceSub, true_and, and_true, Bool.not_true, Bool.not_false, decide_true, decide_false, Int.reduceToNat, Int.reducePow, Int.reduceNeg, Int.cast_ofNat_Int, decide_eq_true_eq, Nat.zero_add, Nat.add_zero, Int.toNat_natCast, Int.reduceLT, Int.reduceLE, Int.reduceBNe, Int.reduceEq, Int.natCast_add, Nat.le_refl]
  refine draw2 F1.tp (by omega) fun r2 g2 a2 b2 F2 L2 => ?_
  try simp -implicitDefEqProofs -dsimp (disch := first | omega | (simp only [List.length_set, List.length_append, List.length_cons, List.length_nil, List.length_map]; omega)) only [↓wp_ok, ↓wp_err, ↓wp_exc, ↓wp_bind, ↓wp_var, ↓wp_cst, ↓wp_bin, ↓wp_neg, ↓wp_cmp, ↓wp_and, ↓wp_or, ↓wp_not, ↓wp_ite, ↓wp_tup, ↓wp_lst, ↓wp_idx, ↓wp_slc, ↓wp_call, ↓wp_bi, ↓wp_bl, ↓wp_mt, ↓wp_mk, ↓wp_lr1, ↓wp_lr2, ↓wp_aa, ↓wp_tr2, ↓wp_maxD, ↓wp_srt, ↓wp_glc, ↓wp_rgN, ↓wp_srtD, ↓wp_lc2, ↓wp_i3, ↓wp_iv, ↓mt_pp, ↓mt_ppA, ↓wp_esn, ↓wp_esc, ↓wp_pn, ↓wp_pa, ↓wp_tv, ↓wp_ta, ↓wp_to, ↓wp_tn, ↓wp_lo, ↓wp_ld, ↓wp_lc, ↓wp_tsn, ↓wp_tsc, ↓wp_io, ↓wp_i1, ↓wp_i2, ↓wp_iz, ↓wp_ie, ↓wo_some, ↓wo_none, ↓br_t, ↓br_f, ↓wps_ok, ↓wps_st, ↓wb_add, ↓wb_sub, ↓wb_mulR, ↓wb_mulL, ↓wb_div, ↓wb_mod, ↓wb_pow, ↓wb_addT, ↓wb_mulT, ↓wb_addL, ↓wb_mulLs, ↓wn_neg, ↓wc_eq, ↓wc_ne, ↓wc_lt, ↓wc_le, ↓wc_gt, ↓wc_ge, ↓wc_in, ↓wc_nin, ↓wc_isN, ↓wc_notN, ↓item_int, ↓sl_tup, ↓sl_ref, ↓bi_len, ↓bi_abs, ↓bi_int, ↓bi_intb, ↓bi_isI, ↓bi_max, ↓bi_min, ↓bi_divmod, ↓bi_lcm, ↓bi_gcd, ↓bl_sum, ↓bl_tuple, ↓bl_list, ↓bl_len, ↓bl_max, ↓bl_min, ↓mt_app, ↓mt_ext, ↓mt_ix, ↓setIt_ref, ↓ws_n, ↓ws_c, ↓ws_expr, ↓ws_asg, ↓ws_set, ↓ws_aug, ↓ws_augS, ↓ws_bad, ↓ws_if, ↓ws_for, ↓ws_whl, ↓ws_ret, ↓ws_retN, ↓ws_brk, ↓ws_cont, ↓ws_pass, ↓sq_n, ↓sq_b, ↓sq_c, ↓sq_r, ↓sq_z, ↓fin_ret, ↓fin_next, ↓fin_rz, ↓isTy_cv, ↓isTy_rt, ↓tr_cv, ↓tr_rt, look_z, look_s, rgW_rg, isNon_non, isNon_bl, isNon_int, isNon_str, isNon_tup, isNon_fl, isNon_ref, eqW_int, eqW_bl, tr_non, tr_bl, tr_int, tr_tup, ixN_in, ixN_neg, mtW_ref, seqOf_ref, seqOf_tup, seqOf_fl, seqOf_rt, seqOf_cv, isNon_rt, isNon_cv, isTup_rt, isTup_cv, guOf_rt, guOf_cv, isTy_rt, isTy_cv, cv_eq, rt_eq, asg_rt, asg_cv, asg_var, asg_tup2, asg_tup3, isTy, guOf, isTup, intW, aug_add, aug_sub, augO_a, augO_s, lstAt_z, lstAt_s, lstAt_al, lstAt_e, lstAt_ar, Nat.sub_self, Nat.add_sub_cancel_left, Nat.reduceSubDiff, List.append_assoc, lstAt_set, lstAt_ne, toInts_ints, toInts_nil, toInts_cons, toBls_nil, toBls_cons, Option.map_some, List.set_cons_succ, List.set_cons_zero, List.getElem?_cons_zero, List.getElem?_cons_succ, List.getElem_cons_zero, List.getElem_cons_succ, List.length_cons, List.length_nil, List.length_set, List.length_append, List.length_map, List.nil_append, List.cons_append, List.append_nil, List.set_set, Nat.reduceAdd, Nat.reduceLeDiff, Nat.reduceLT, Nat.reduceSub, true_and, and_true, Bool.not_true, Bool.not_false, decide_true, decide_false, Int.reduceToNat, Int.reducePow, Int.reduceNeg, Int.cast_ofNat_Int, decide_eq_true_eq, Nat.zero_add, Nat.add_zero, Int.toNat_natCast, Int.reduceLT, Int.reduceLE, Int.reduceBNe, Int.reduceEq, Int.natCast_add, Nat.le_refl]
  refine draw2 (F2.tp.app _) (by omega) fun r3 g3 a3 b3 F3 L3 => ?_
  have hp2 := F2.tp.lt
  have e3 : lstAt g3 g2.length = some [.int 0, .int 1, .int r1, .int r2, .int m] := by rw [F3.lst (by simp) (by omega)]; exact (lst_new rfl (Nat.le_refl _)).trans (by rw [Nat.sub_self]; rfl)
  try simp -implicitDefEqProofs -dsimp (disch := first | omega | (simp only [List.length_set, List.length_append, List.length_cons, List.length_nil, List.length_map]; omega)) only [↓wp_ok, ↓wp_err, ↓wp_exc, ↓wp_bind, ↓wp_var, ↓wp_cst, ↓wp_bin, ↓wp_neg, ↓wp_cmp, ↓wp_and, ↓wp_or, ↓wp_not, ↓wp_ite, ↓wp_tup, ↓wp_lst, ↓wp_idx, ↓wp_slc, ↓wp_call, ↓wp_bi, ↓wp_bl, ↓wp_mt, ↓wp_mk, ↓wp_lr1, ↓wp_lr2, ↓wp_aa, ↓wp_tr2, ↓wp_maxD, ↓wp_srt, ↓wp_glc, ↓wp_rgN, ↓wp_srtD, ↓wp_lc2, ↓wp_i3, ↓wp_iv, ↓mt_pp, ↓mt_ppA, ↓wp_esn, ↓wp_esc, ↓wp_pn, ↓wp_pa, ↓wp_tv, ↓wp_ta, ↓wp_to, ↓wp_tn, ↓wp_lo, ↓wp_ld, ↓wp_lc, ↓wp_tsn, ↓wp_tsc, ↓wp_io, ↓wp_i1, ↓wp_i2, ↓wp_iz, ↓wp_ie, ↓wo_some, ↓wo_none, ↓br_t, ↓br_f, ↓wps_ok, ↓wps_st, ↓wb_add, ↓wb_sub, ↓wb_mulR, ↓wb_mulL, ↓wb_div, ↓wb_mod, ↓wb_pow, ↓wb_addT, ↓wb_mulT, ↓wb_addL, ↓wb_mulLs, ↓wn_neg, ↓wc_eq, ↓wc_ne, ↓wc_lt, ↓wc_le, ↓wc_gt, ↓wc_ge, ↓wc_in, ↓wc_nin, ↓wc_isN, ↓wc_notN, ↓item_int, ↓sl_tup, ↓sl_ref, ↓bi_len, ↓bi_abs, ↓bi_int, ↓bi_intb, ↓bi_isI, ↓bi_max, ↓bi_min, ↓bi_divmod, ↓bi_lcm, ↓bi_gcd, ↓bl_sum, ↓bl_tuple, ↓bl_list, ↓bl_len, ↓bl_max, ↓bl_min, ↓mt_app, ↓mt_ext, ↓mt_ix, ↓setIt_ref, ↓ws_n, ↓ws_c, ↓ws_expr, ↓ws_asg, ↓ws_set, ↓ws_aug, ↓ws_augS, ↓ws_bad, ↓ws_if, ↓ws_for, ↓ws_whl, ↓ws_ret, ↓ws_retN, ↓ws_brk, ↓ws_cont, ↓ws_pass, ↓sq_n, ↓sq_b, ↓sq_c, ↓sq_r, ↓sq_z, ↓fin_ret, ↓fin_next, ↓fin_rz, ↓isTy_cv, ↓isTy_rt, ↓tr_cv, ↓tr_rt, look_z, look_s, rgW_rg, isNon_non, isNon_bl, isNon_int, isNon_str, isNon_tup, isNon_fl, isNon_ref, eqW_int, eqW_bl, tr_non, tr_bl, tr_int, tr_tup, ixN_in, ixN_neg, mtW_ref, seqOf_ref, seqOf_tup, seqOf_fl, seqOf_rt, seqOf_cv, isNon_rt, isNon_cv, isTup_rt, isTup_cv, guOf_rt, guOf_cv, isTy_rt, isTy_cv, cv_eq, rt_eq, asg_rt, asg_cv, asg_var, asg_tup2, asg_tup3, isTy, guOf, isTup, intW, aug_add, aug_sub, augO_a, augO_s, lstAt_z, lstAt_s, lstAt_al, lstAt_e, lstAt_ar, Nat.sub_self, Nat.add_sub_cancel_left, Nat.reduceSubDiff, List.append_assoc, lstAt_set, lstAt_ne, toInts_ints, toInts_nil, toInts_cons, toBls_nil, toBls_cons, Option.map_some, List.set_cons_succ, List.set_cons_zero, List.getElem?_cons_zero, List.getElem?_cons_succ, List.getElem_cons_zero, List.getElem_cons_succ, List.length_cons, List.length_nil, List.length_set, List.length_append, List.length_map, List.nil_append, List.cons_append, List.append_nil, List.set_set, Nat.reduceAdd, Nat.reduceLeDiff, Nat.reduceLT, Nat.reduceSub, true_and, and_true, Bool.not_true, Bool.not_false, decide_true, decide_false, Int.reduceToNat, Int.reducePow, Int.reduceNeg, Int.cast_ofNat_Int, decide_eq_true_eq, Nat.zero_add, Nat.add_zero, Int.toNat_natCast, Int.reduceLT, Int.reduceLE, Int.reduceBNe, Int.reduceEq, Int.natCast_add, Nat.le_refl, e3]
  refine wo_pick [0, 1, r1, r2, m] (fun c => 0 ≤ c ∧ c ≤ 1000) (by simp; omega) (by simp; omega) fun c hc => ?_
  try simp -implicitDefEqProofs -dsimp (disch := first | omega | (simp only [List.length_set, List.length_append, List.length_cons, List.length_nil, List.length_map]; omega)) only [↓wp_ok, ↓wp_err, ↓wp_exc, ↓wp_bind, ↓wp_var, ↓wp_cst, ↓wp_bin, ↓wp_neg, ↓wp_cmp, ↓wp_and, ↓wp_or, ↓wp_not, ↓wp_ite, ↓wp_tup, ↓wp_lst, ↓wp_idx, ↓wp_slc, ↓wp_call, ↓wp_bi, ↓wp_bl, ↓wp_mt, ↓wp_mk, ↓wp_lr1, ↓wp_lr2, ↓wp_aa, ↓wp_tr2, ↓wp_maxD, ↓wp_srt, ↓wp_glc, ↓wp_rgN, ↓wp_srtD, ↓wp_lc2, ↓wp_i3, ↓wp_iv, ↓mt_pp, ↓mt_ppA, ↓wp_esn, ↓wp_esc, ↓wp_pn, ↓wp_pa, ↓wp_tv, ↓wp_ta, ↓wp_to, ↓wp_tn, ↓wp_lo, ↓wp_ld, ↓wp_lc, ↓wp_tsn, ↓wp_tsc, ↓wp_io, ↓wp_i1, ↓wp_i2, ↓wp_iz, ↓wp_ie, ↓wo_some, ↓wo_none, ↓br_t, ↓br_f, ↓wps_ok, ↓wps_st, ↓wb_add, ↓wb_sub, ↓wb_mulR, ↓wb_mulL, ↓wb_div, ↓wb_mod, ↓wb_pow, ↓wb_addT, ↓wb_mulT, ↓wb_addL, ↓wb_mulLs, ↓wn_neg, ↓wc_eq, ↓wc_ne, ↓wc_lt, ↓wc_le, ↓wc_gt, ↓wc_ge, ↓wc_in, ↓wc_nin, ↓wc_isN, ↓wc_notN, ↓item_int, ↓sl_tup, ↓sl_ref, ↓bi_len, ↓bi_abs, ↓bi_int, ↓bi_intb, ↓bi_isI, ↓bi_max, ↓bi_min, ↓bi_divmod, ↓bi_lcm, ↓bi_gcd, ↓bl_sum, ↓bl_tuple, ↓bl_list, ↓bl_len, ↓bl_max, ↓bl_min, ↓mt_app, ↓mt_ext, ↓mt_ix, ↓setIt_ref, ↓ws_n, ↓ws_c, ↓ws_expr, ↓ws_asg, ↓ws_set, ↓ws_aug, ↓ws_augS, ↓ws_bad, ↓ws_if, ↓ws_for, ↓ws_whl, ↓ws_ret, ↓ws_retN, ↓ws_brk, ↓ws_cont, ↓ws_pass, ↓sq_n, ↓sq_b, ↓sq_c, ↓sq_r, ↓sq_z, ↓fin_ret, ↓fin_next, ↓fin_rz, ↓isTy_cv, ↓isTy_rt, ↓tr_cv, ↓tr_rt, look_z, look_s, rgW_rg, isNon_non, isNon_bl, isNon_int, isNon_str, isNon_tup, isNon_fl, isNon_ref, eqW_int, eqW_bl, tr_non, tr_bl, tr_int, tr_tup, ixN_in, ixN_neg, mtW_ref, seqOf_ref, seqOf_tup, seqOf_fl, seqOf_rt, seqOf_cv, isNon_rt, isNon_cv, isTup_rt, isTup_cv, guOf_rt, guOf_cv, isTy_rt, isTy_cv, cv_eq, rt_eq, asg_rt, asg_cv, asg_var, asg_tup2, asg_tup3, isTy, guOf, isTup, intW, aug_add, aug_sub, augO_a, augO_s, lstAt_z, lstAt_s, lstAt_al, lstAt_e, lstAt_ar, Nat.sub_self, Nat.add_sub_cancel_left, Nat.reduceSubDiff, List.append_assoc, lstAt_set, lstAt_ne, toInts_ints, toInts_nil, toInts_cons, toBls_nil, toBls_cons, Option.map_some, List.set_cons_succ, List.set_cons_zero, List.getElem?_cons_zero, List.getElem?_cons_succ, List.getElem_cons_zero, List.getElem_cons_succ, List.length_cons, List.length_nil, List.length_set, List.length_append, List.length_map, List.nil_append, List.cons_append, List.append_nil, List.set_set, Nat.reduceAdd, Nat.reduceLeDiff, Nat.reduceLT, Nat.reduceSub, true_and, and_true, Bool.not_true, Bool.not_false, decide_true, decide_false, Int.reduceToNat, Int.reducePow, Int.reduceNeg, Int.cast_ofNat_Int, decide_eq_true_eq, Nat.zero_add, Nat.add_zero, Int.toNat_natCast, Int.reduceLT, Int.reduceLE, Int.reduceBNe, Int.reduceEq, Int.natCast_add, Nat.le_refl]
  refine tidy_fr ((F1.trans F2).app _ |>.trans F3) T blw_int fun g F' L' => ?_
  rw [nat_int hc.1]
  exact K _ _ (by omega) F' L'
def cal (c : List Int × List Int) : W := cv 0 c.1 c.2
theorem lss (e j : Nat) : ∃ D : List Int × List Int → Option Nat, ∀ c, Cal c.1 c.2 → Ls c.1 c.2 e j (D c) := by
  have h : ∀ c : List Int × List Int, ∃ o : Option Nat, Cal c.1 c.2 → Ls c.1 c.2 e j o := fun c => by
    by_cases o : Cal c.1 c.2
    · obtain ⟨n, w⟩ := ls_ex o e j
      exact ⟨n, fun _ => w⟩
    · exact ⟨none, fun z => absurd z o⟩
  exact Classical.axiomOfChoice h
theorem wks (j : Nat) : ∃ N : List Int × List Int → Nat → Nat, ∀ c, Cal c.1 c.2 → ∀ s, Wk c.1 c.2 s j (N c s) := by
  have h : ∀ c : List Int × List Int, ∃ n : Nat → Nat, Cal c.1 c.2 → ∀ s, Wk c.1 c.2 s j (n s) := fun c => by
    by_cases o : Cal c.1 c.2
    · obtain ⟨n, w⟩ := Classical.axiomOfChoice fun s => wk_ex o s j
      exact ⟨n, fun _ => w⟩
    · exact ⟨fun _ => 0, fun z => absurd z o⟩
  exact Classical.axiomOfChoice h
theorem dt_oW (o : Option Nat) : Dt 0 (oW o) := by cases o <;> (unfold oW Dt; trivial)
theorem law_turn {k : Nat} {g : Hw} {c0 c1 : List Int × List Int} {ρ0 ρ3 ρ4 ρ5 ρ6 ρ7 ρ8 ρ9 ρ10 ρ11 : Option W} {Q : Fl → En → Hw → Prop} (T : Tp 0 1 g) (C0 : Cal c0.1 c0.2) (C1 : Cal c1.1 c1.2) (pg : lstAt g 2 = some [cal c0, cal c1])
    (K : ∀ ρ4 ρ5 ρ6 ρ7 ρ8 ρ9 ρ10 ρ11 g', Fr 0 1 g g' → Q .next [ρ0, some (.ref 1), some (.ref 2), ρ3, ρ4, ρ5, ρ6, ρ7, ρ8, ρ9, ρ10, ρ11] g') :
    wps (evSs (PhiN ds (k + 5)) b_law_6 [ρ0, some (.ref 1), some (.ref 2), ρ3, ρ4, ρ5, ρ6, ρ7, ρ8, ρ9, ρ10, ρ11] g) Q := by
  have len := lstAt_lt pg
  unfold b_law_6
  try simp -implicitDefEqProofs -dsimp (disch := first | omega | (simp only [List.length_set, List.length_append, List.length_cons, List.length_nil, List.length_map]; omega)) only [↓wp_ok, ↓wp_err, ↓wp_exc, ↓wp_bind, ↓wp_var, ↓wp_cst, ↓wp_bin, ↓wp_neg, ↓wp_cmp, ↓wp_and, ↓wp_or, ↓wp_not, ↓wp_ite, ↓wp_tup, ↓wp_lst, ↓wp_idx, ↓wp_slc, ↓wp_call, ↓wp_bi, ↓wp_bl, ↓wp_mt, ↓wp_mk, ↓wp_lr1, ↓wp_lr2, ↓wp_aa, ↓wp_tr2, ↓wp_maxD, ↓wp_srt, ↓wp_glc, ↓wp_rgN, ↓wp_srtD, ↓wp_lc2, ↓wp_i3, ↓wp_iv, ↓mt_pp, ↓mt_ppA, ↓wp_esn, ↓wp_esc, ↓wp_pn, ↓wp_pa, ↓wp_tv, ↓wp_ta, ↓wp_to, ↓wp_tn, ↓wp_lo, ↓wp_ld, ↓wp_lc, ↓wp_tsn, ↓wp_tsc, ↓wp_io, ↓wp_i1, ↓wp_i2, ↓wp_iz, ↓wp_ie, ↓wo_some, ↓wo_none, ↓br_t, ↓br_f, ↓wps_ok, ↓wps_st, ↓wb_add, ↓wb_sub, ↓wb_mulR, ↓wb_mulL, ↓wb_div, ↓wb_mod, ↓wb_pow, ↓wb_addT, ↓wb_mulT, ↓wb_addL, ↓wb_mulLs, ↓wn_neg, ↓wc_eq, ↓wc_ne, ↓wc_lt, ↓wc_le, ↓wc_gt, ↓wc_ge, ↓wc_in, ↓wc_nin, ↓wc_isN, ↓wc_notN, ↓item_int, ↓sl_tup, ↓sl_ref, ↓bi_len, ↓bi_abs, ↓bi_int, ↓bi_intb, ↓bi_isI, ↓bi_max, ↓bi_min, ↓bi_divmod, ↓bi_lcm, ↓bi_gcd, ↓bl_sum, ↓bl_tuple, ↓bl_list, ↓bl_len, ↓bl_max, ↓bl_min, ↓mt_app, ↓mt_ext, ↓mt_ix, ↓setIt_ref, ↓ws_n, ↓ws_c, ↓ws_expr, ↓ws_asg, ↓ws_set, ↓ws_aug, ↓ws_augS, ↓ws_bad, ↓ws_if, ↓ws_for, ↓ws_whl, ↓ws_ret, ↓ws_retN, ↓ws_brk, ↓ws_cont, ↓ws_pass, ↓sq_n, ↓sq_b, ↓sq_c, ↓sq_r, ↓sq_z, ↓fin_ret, ↓fin_next, ↓fin_rz, ↓isTy_cv, ↓isTy_rt, ↓tr_cv, ↓tr_rt, look_z, look_s, rgW_rg, isNon_non, isNon_bl, isNon_int, isNon_str, isNon_tup, isNon_fl, isNon_ref, eqW_int, eqW_bl, tr_non, tr_bl, tr_int, tr_tup, ixN_in, ixN_neg, mtW_ref, seqOf_ref, seqOf_tup, seqOf_fl, seqOf_rt, seqOf_cv, isNon_rt, isNon_cv, isTup_rt, isTup_cv, guOf_rt, guOf_cv, isTy_rt, isTy_cv, cv_eq, rt_eq, asg_rt, asg_cv, asg_var, asg_tup2, asg_tup3, isTy, guOf, isTup, intW, aug_add, aug_sub, augO_a, augO_s, lstAt_z, lstAt_s, lstAt_al, lstAt_e, lstAt_ar, Nat.sub_self, Nat.add_sub_cancel_left, Nat.reduceSubDiff, List.append_assoc, lstAt_set, lstAt_ne, toInts_ints, toInts_nil, toInts_cons, toBls_nil, toBls_cons, Option.map_some, List.set_cons_succ, List.set_cons_zero, List.getElem?_cons_zero, List.getElem?_cons_succ, List.getElem_cons_zero, List.getElem_cons_succ, List.length_cons, List.length_nil, List.length_set, List.length_append, List.length_map, List.nil_append, List.cons_append, List.append_nil, List.set_set, Nat.reduceAdd, Nat.reduceLeDiff, Nat.reduceLT, Nat.reduceSub, true_and, and_true, Bool.not_true, Bool.not_false, decide_true, decide_false, Int.reduceToNat, Int.reducePow, Int.reduceNeg, Int.cast_ofNat_Int, decide_eq_true_eq, Nat.zero_add, Nat.add_zero, Int.toNat_natCast, Int.reduceLT, Int.reduceLE, Int.reduceBNe, Int.reduceEq, Int.natCast_add, Nat.le_refl]
  refine draw2 (T.app _) (by omega) fun r1 g1 a1 b1 F1 L1 => ?_
  have F1' : Fr 0 1 g g1 := ((Fr.refl T).app _).trans F1
  have e1 : lstAt g1 g.length = some [.int 100, .int 1000] := by rw [F1.lst (by simp) (by omega)]; exact (lst_new rfl (Nat.le_refl _)).trans (by rw [Nat.sub_self]; rfl)
  try simp -implicitDefEqProofs -dsimp (disch := first | omega | (simp only [List.length_set, List.length_append, List.length_cons, List.length_nil, List.length_map]; omega)) only [↓wp_ok, ↓wp_err, ↓wp_exc, ↓wp_bind, ↓wp_var, ↓wp_cst, ↓wp_bin, ↓wp_neg, ↓wp_cmp, ↓wp_and, ↓wp_or, ↓wp_not, ↓wp_ite, ↓wp_tup, ↓wp_lst, ↓wp_idx, ↓wp_slc, ↓wp_call, ↓wp_bi, ↓wp_bl, ↓wp_mt, ↓wp_mk, ↓wp_lr1, ↓wp_lr2, ↓wp_aa, ↓wp_tr2, ↓wp_maxD, ↓wp_srt, ↓wp_glc, ↓wp_rgN, ↓wp_srtD, ↓wp_lc2, ↓wp_i3, ↓wp_iv, ↓mt_pp, ↓mt_ppA, ↓wp_esn, ↓wp_esc, ↓wp_pn, ↓wp_pa, ↓wp_tv, ↓wp_ta, ↓wp_to, ↓wp_tn, ↓wp_lo, ↓wp_ld, ↓wp_lc, ↓wp_tsn, ↓wp_tsc, ↓wp_io, ↓wp_i1, ↓wp_i2, ↓wp_iz, ↓wp_ie, ↓wo_some, ↓wo_none, ↓br_t, ↓br_f, ↓wps_ok, ↓wps_st, ↓wb_add, ↓wb_sub, ↓wb_mulR, ↓wb_mulL, ↓wb_div, ↓wb_mod, ↓wb_pow, ↓wb_addT, ↓wb_mulT, ↓wb_addL, ↓wb_mulLs, ↓wn_neg, ↓wc_eq, ↓wc_ne, ↓wc_lt, ↓wc_le, ↓wc_gt, ↓wc_ge, ↓wc_in, ↓wc_nin, ↓wc_isN, ↓wc_notN, ↓item_int, ↓sl_tup, ↓sl_ref, ↓bi_len, ↓bi_abs, ↓bi_int, ↓bi_intb, ↓bi_isI, ↓bi_max, ↓bi_min, ↓bi_divmod, ↓bi_lcm, ↓bi_gcd, ↓bl_sum, ↓bl_tuple, ↓bl_list, ↓bl_len, ↓bl_max, ↓bl_min, ↓mt_app, ↓mt_ext, ↓mt_ix, ↓setIt_ref, ↓ws_n, ↓ws_c, ↓ws_expr, ↓ws_asg, ↓ws_set, ↓ws_aug, ↓ws_augS, ↓ws_bad, ↓ws_if, ↓ws_for, ↓ws_whl, ↓ws_ret, ↓ws_retN, ↓ws_brk, ↓ws_cont, ↓ws_pass, ↓sq_n, ↓sq_b, ↓sq_c, ↓sq_r, ↓sq_z, ↓fin_ret, ↓fin_next, ↓fin_rz, ↓isTy_cv, ↓isTy_rt, ↓tr_cv, ↓tr_rt, look_z, look_s, rgW_rg, isNon_non, isNon_bl, isNon_int, isNon_str, isNon_tup, isNon_fl, isNon_ref, eqW_int, eqW_bl, tr_non, tr_bl, tr_int, tr_tup, ixN_in, ixN_neg, mtW_ref, seqOf_ref, seqOf_tup, seqOf_fl, seqOf_rt, seqOf_cv, isNon_rt, isNon_cv, isTup_rt, isTup_cv, guOf_rt, guOf_cv, isTy_rt, isTy_cv, cv_eq, rt_eq, asg_rt, asg_cv, asg_var, asg_tup2, asg_tup3, isTy, guOf, isTup, intW, aug_add, aug_sub, augO_a, augO_s, lstAt_z, lstAt_s, lstAt_al, lstAt_e, lstAt_ar, Nat.sub_self, Nat.add_sub_cancel_left, Nat.reduceSubDiff, List.append_assoc, lstAt_set, lstAt_ne, toInts_ints, toInts_nil, toInts_cons, toBls_nil, toBls_cons, Option.map_some, List.set_cons_succ, List.set_cons_zero, List.getElem?_cons_zero, List.getElem?_cons_succ, List.getElem_cons_zero, List.getElem_cons_succ, List.length_cons, List.length_nil, List.length_set, List.length_append, List.length_map, List.nil_append, List.cons_append, List.append_nil, List.set_set, Nat.reduceAdd, Nat.reduceLeDiff, Nat.reduceLT, Nat.reduceSub, true_and, and_true, Bool.not_true, Bool.not_false, decide_true, decide_false, Int.reduceToNat, Int.reducePow, Int.reduceNeg, Int.cast_ofNat_Int, decide_eq_true_eq, Nat.zero_add, Nat.add_zero, Int.toNat_natCast, Int.reduceLT, Int.reduceLE, Int.reduceBNe, Int.reduceEq, Int.natCast_add, Nat.le_refl, e1]
  refine wo_pick [100, 1000] (fun c => 100 ≤ c ∧ c ≤ 1000) (by simp; omega) (by simp) fun c hc => ?_
  try simp -implicitDefEqProofs -dsimp (disch := first | omega | (simp only [List.length_set, List.length_append, List.length_cons, List.length_nil, List.length_map]; omega)) only [↓wp_ok, ↓wp_err, ↓wp_exc, ↓wp_bind, ↓wp_var, ↓wp_cst, ↓wp_bin, ↓wp_neg, ↓wp_cmp, ↓wp_and, ↓wp_or, ↓wp_not, ↓wp_ite, ↓wp_tup, ↓wp_lst, ↓wp_idx, ↓wp_slc, ↓wp_call, ↓wp_bi, ↓wp_bl, ↓wp_mt, ↓wp_mk, ↓wp_lr1, ↓wp_lr2, ↓wp_aa, ↓wp_tr2, ↓wp_maxD, ↓wp_srt, ↓wp_glc, ↓wp_rgN, ↓wp_srtD, ↓wp_lc2, ↓wp_i3, ↓wp_iv, ↓mt_pp, ↓mt_ppA, ↓wp_esn, ↓wp_esc, ↓wp_pn, ↓wp_pa, ↓wp_tv, ↓wp_ta, ↓wp_to, ↓wp_tn, ↓wp_lo, ↓wp_ld, ↓wp_lc, ↓wp_tsn, ↓wp_tsc, ↓wp_io, ↓wp_i1, ↓wp_i2, ↓wp_iz, ↓wp_ie, ↓wo_some, ↓wo_none, ↓br_t, ↓br_f, ↓wps_ok, ↓wps_st, ↓wb_add, ↓wb_sub, ↓wb_mulR, ↓wb_mulL, ↓wb_div, ↓wb_mod, ↓wb_pow, ↓wb_addT, ↓wb_mulT, ↓wb_addL, ↓wb_mulLs, ↓wn_neg, ↓wc_eq, ↓wc_ne, ↓wc_lt, ↓wc_le, ↓wc_gt, ↓wc_ge, ↓wc_in, ↓wc_nin, ↓wc_isN, ↓wc_notN, ↓item_int, ↓sl_tup, ↓sl_ref, ↓bi_len, ↓bi_abs, ↓bi_int, ↓bi_intb, ↓bi_isI, ↓bi_max, ↓bi_min, ↓bi_divmod, ↓bi_lcm, ↓bi_gcd, ↓bl_sum, ↓bl_tuple, ↓bl_list, ↓bl_len, ↓bl_max, ↓bl_min, ↓mt_app, ↓mt_ext, ↓mt_ix, ↓setIt_ref, ↓ws_n, ↓ws_c, ↓ws_expr, ↓ws_asg, ↓ws_set, ↓ws_aug, ↓ws_augS, ↓ws_bad, ↓ws_if, ↓ws_for, ↓ws_whl, ↓ws_ret, ↓ws_retN, ↓ws_brk, ↓ws_cont, ↓ws_pass, ↓sq_n, ↓sq_b, ↓sq_c, ↓sq_r, ↓sq_z, ↓fin_ret, ↓fin_next, ↓fin_rz, ↓isTy_cv, ↓isTy_rt, ↓tr_cv, ↓tr_rt, look_z, look_s, rgW_rg, isNon_non, isNon_bl, isNon_int, isNon_str, isNon_tup, isNon_fl, isNon_ref, eqW_int, eqW_bl, tr_non, tr_bl, tr_int, tr_tup, ixN_in, ixN_neg, mtW_ref, seqOf_ref, seqOf_tup, seqOf_fl, seqOf_rt, seqOf_cv, isNon_rt, isNon_cv, isTup_rt, isTup_cv, guOf_rt, guOf_cv, isTy_rt, isTy_cv, cv_eq, rt_eq, asg_rt, asg_cv, asg_var, asg_tup2, asg_tup3, isTy, guOf, isTup, intW, aug_add, aug_sub, augO_a, augO_s, lstAt_z, lstAt_s, lstAt_al, lstAt_e, lstAt_ar, Nat.sub_self, Nat.add_sub_cancel_left, Nat.reduceSubDiff, List.append_assoc, lstAt_set, lstAt_ne, toInts_ints, toInts_nil, toInts_cons, toBls_nil, toBls_cons, Option.map_some, List.set_cons_succ, List.set_cons_zero, List.getElem?_cons_zero, List.getElem?_cons_succ, List.getElem_cons_zero, List.getElem_cons_succ, List.length_cons, List.length_nil, List.length_set, List.length_append, List.length_map, List.nil_append, List.cons_append, List.append_nil, List.set_set, Nat.reduceAdd, Nat.reduceLeDiff, Nat.reduceLT, Nat.reduceSub, true_and, and_true, Bool.not_true, Bool.not_false, decide_true, decide_false, Int.reduceToNat, Int.reducePow, Int.reduceNeg, Int.cast_ofNat_Int, decide_eq_true_eq, Nat.zero_add, Nat.add_zero, Int.toNat_natCast, Int.reduceLT, Int.reduceLE, Int.reduceBNe, Int.reduceEq, Int.natCast_add, Nat.le_refl]
  refine amount_wp F1.tp hc fun e g2 he F2 L2 => ?_
  try simp -implicitDefEqProofs -dsimp (disch := first | omega | (simp only [List.length_set, List.length_append, List.length_cons, List.length_nil, List.length_map]; omega)) only [↓wp_ok, ↓wp_err, ↓wp_exc, ↓wp_bind, ↓wp_var, ↓wp_cst, ↓wp_bin, ↓wp_neg, ↓wp_cmp, ↓wp_and, ↓wp_or, ↓wp_not, ↓wp_ite, ↓wp_tup, ↓wp_lst, ↓wp_idx, ↓wp_slc, ↓wp_call, ↓wp_bi, ↓wp_bl, ↓wp_mt, ↓wp_mk, ↓wp_lr1, ↓wp_lr2, ↓wp_aa, ↓wp_tr2, ↓wp_maxD, ↓wp_srt, ↓wp_glc, ↓wp_rgN, ↓wp_srtD, ↓wp_lc2, ↓wp_i3, ↓wp_iv, ↓mt_pp, ↓mt_ppA, ↓wp_esn, ↓wp_esc, ↓wp_pn, ↓wp_pa, ↓wp_tv, ↓wp_ta, ↓wp_to, ↓wp_tn, ↓wp_lo, ↓wp_ld, ↓wp_lc, ↓wp_tsn, ↓wp_tsc, ↓wp_io, ↓wp_i1, ↓wp_i2, ↓wp_iz, ↓wp_ie, ↓wo_some, ↓wo_none, ↓br_t, ↓br_f, ↓wps_ok, ↓wps_st, ↓wb_add, ↓wb_sub, ↓wb_mulR, ↓wb_mulL, ↓wb_div, ↓wb_mod, ↓wb_pow, ↓wb_addT, ↓wb_mulT, ↓wb_addL, ↓wb_mulLs, ↓wn_neg, ↓wc_eq, ↓wc_ne, ↓wc_lt, ↓wc_le, ↓wc_gt, ↓wc_ge, ↓wc_in, ↓wc_nin, ↓wc_isN, ↓wc_notN, ↓item_int, ↓sl_tup, ↓sl_ref, ↓bi_len, ↓bi_abs, ↓bi_int, ↓bi_intb, ↓bi_isI, ↓bi_max, ↓bi_min, ↓bi_divmod, ↓bi_lcm, ↓bi_gcd, ↓bl_sum, ↓bl_tuple, ↓bl_list, ↓bl_len, ↓bl_max, ↓bl_min, ↓mt_app, ↓mt_ext, ↓mt_ix, ↓setIt_ref, ↓ws_n, ↓ws_c, ↓ws_expr, ↓ws_asg, ↓ws_set, ↓ws_aug, ↓ws_augS, ↓ws_bad, ↓ws_if, ↓ws_for, ↓ws_whl, ↓ws_ret, ↓ws_retN, ↓ws_brk, ↓ws_cont, ↓ws_pass, ↓sq_n, ↓sq_b, ↓sq_c, ↓sq_r, ↓sq_z, ↓fin_ret, ↓fin_next, ↓fin_rz, ↓isTy_cv, ↓isTy_rt, ↓tr_cv, ↓tr_rt, look_z, look_s, rgW_rg, isNon_non, isNon_bl, isNon_int, isNon_str, isNon_tup, isNon_fl, isNon_ref, eqW_int, eqW_bl, tr_non, tr_bl, tr_int, tr_tup, ixN_in, ixN_neg, mtW_ref, seqOf_ref, seqOf_tup, seqOf_fl, seqOf_rt, seqOf_cv, isNon_rt, isNon_cv, isTup_rt, isTup_cv, guOf_rt, guOf_cv, isTy_rt, isTy_cv, cv_eq, rt_eq, asg_rt, asg_cv, asg_var, asg_tup2, asg_tup3, isTy, guOf, isTup, intW, aug_add, aug_sub, augO_a, augO_s, lstAt_z, lstAt_s, lstAt_al, lstAt_e, lstAt_ar, Nat.sub_self, Nat.add_sub_cancel_left, Nat.reduceSubDiff, List.append_assoc, lstAt_set, lstAt_ne, toInts_ints, toInts_nil, toInts_cons, toBls_nil, toBls_cons, Option.map_some, List.set_cons_succ, List.set_cons_zero, List.getElem?_cons_zero, List.getElem?_cons_succ, List.getElem_cons_zero, List.getElem_cons_succ, List.length_cons, List.length_nil, List.length_set, List.length_append, List.length_map, List.nil_append, List.cons_append, List.append_nil, List.set_set, Nat.reduceAdd, Nat.reduceLeDiff, Nat.reduceLT, Nat.reduceSub, true_and, and_true, Bool.not_true, Bool.not_false, decide_true, decide_false, Int.reduceToNat, Int.reducePow, Int.reduceNeg, Int.cast_ofNat_Int, decide_eq_true_eq, Nat.zero_add, Nat.add_zero, Int.toNat_natCast, Int.reduceLT, Int.reduceLE, Int.reduceBNe, Int.reduceEq, Int.natCast_add, Nat.le_refl]
  refine amount_wp F2.tp (by omega) fun hr g4 hhr F4 L4 => ?_
  have F4' : Fr 0 1 g g4 := (F1'.trans F2).trans F4
  have pg4 : lstAt g4 2 = some [cal c0, cal c1] := by rw [F4'.lst (by omega) (by omega), pg]
  have len4 := lstAt_lt pg4
  obtain ⟨D, hD⟩ := lss e hr
  obtain ⟨N, hN⟩ := wks hr
  try simp -implicitDefEqProofs -dsimp (disch := first | omega | (simp only [List.length_set, List.length_append, List.length_cons, List.length_nil, List.length_map]; omega)) only [↓wp_ok, ↓wp_err, ↓wp_exc, ↓wp_bind, ↓wp_var, ↓wp_cst, ↓wp_bin, ↓wp_neg, ↓wp_cmp, ↓wp_and, ↓wp_or, ↓wp_not, ↓wp_ite, ↓wp_tup, ↓wp_lst, ↓wp_idx, ↓wp_slc, ↓wp_call, ↓wp_bi, ↓wp_bl, ↓wp_mt, ↓wp_mk, ↓wp_lr1, ↓wp_lr2, ↓wp_aa, ↓wp_tr2, ↓wp_maxD, ↓wp_srt, ↓wp_glc, ↓wp_rgN, ↓wp_srtD, ↓wp_lc2, ↓wp_i3, ↓wp_iv, ↓mt_pp, ↓mt_ppA, ↓wp_esn, ↓wp_esc, ↓wp_pn, ↓wp_pa, ↓wp_tv, ↓wp_ta, ↓wp_to, ↓wp_tn, ↓wp_lo, ↓wp_ld, ↓wp_lc, ↓wp_tsn, ↓wp_tsc, ↓wp_io, ↓wp_i1, ↓wp_i2, ↓wp_iz, ↓wp_ie, ↓wo_some, ↓wo_none, ↓br_t, ↓br_f, ↓wps_ok, ↓wps_st, ↓wb_add, ↓wb_sub, ↓wb_mulR, ↓wb_mulL, ↓wb_div, ↓wb_mod, ↓wb_pow, ↓wb_addT, ↓wb_mulT, ↓wb_addL, ↓wb_mulLs, ↓wn_neg, ↓wc_eq, ↓wc_ne, ↓wc_lt, ↓wc_le, ↓wc_gt, ↓wc_ge, ↓wc_in, ↓wc_nin, ↓wc_isN, ↓wc_notN, ↓item_int, ↓sl_tup, ↓sl_ref, ↓bi_len, ↓bi_abs, ↓bi_int, ↓bi_intb, ↓bi_isI, ↓bi_max, ↓bi_min, ↓bi_divmod, ↓bi_lcm, ↓bi_gcd, ↓bl_sum, ↓bl_tuple, ↓bl_list, ↓bl_len, ↓bl_max, ↓bl_min, ↓mt_app, ↓mt_ext, ↓mt_ix, ↓setIt_ref, ↓ws_n, ↓ws_c, ↓ws_expr, ↓ws_asg, ↓ws_set, ↓ws_aug, ↓ws_augS, ↓ws_bad, ↓ws_if, ↓ws_for, ↓ws_whl, ↓ws_ret, ↓ws_retN, ↓ws_brk, ↓ws_cont, ↓ws_pass, ↓sq_n, ↓sq_b, ↓sq_c, ↓sq_r, ↓sq_z, ↓fin_ret, ↓fin_next, ↓fin_rz, ↓isTy_cv, ↓isTy_rt, ↓tr_cv, ↓tr_rt, look_z, look_s, rgW_rg, isNon_non, isNon_bl, isNon_int, isNon_str, isNon_tup, isNon_fl, isNon_ref, eqW_int, eqW_bl, tr_non, tr_bl, tr_int, tr_tup, ixN_in, ixN_neg, mtW_ref, seqOf_ref, seqOf_tup, seqOf_fl, seqOf_rt, seqOf_cv, isNon_rt, isNon_cv, isTup_rt, isTup_cv, guOf_rt, guOf_cv, isTy_rt, isTy_cv, cv_eq, rt_eq, asg_rt, asg_cv, asg_var, asg_tup2, asg_tup3, isTy, guOf, isTup, intW, aug_add, aug_sub, augO_a, augO_s, lstAt_z, lstAt_s, lstAt_al, lstAt_e, lstAt_ar, Nat.sub_self, Nat.add_sub_cancel_left, Nat.reduceSubDiff, List.append_assoc, lstAt_set, lstAt_ne, toInts_ints, toInts_nil, toInts_cons, toBls_nil, toBls_cons, Option.map_some, List.set_cons_succ, List.set_cons_zero, List.getElem?_cons_zero, List.getElem?_cons_succ, List.getElem_cons_zero, List.getElem_cons_succ, List.length_cons, List.length_nil, List.length_set, List.length_append, List.length_map, List.nil_append, List.cons_append, List.append_nil, List.set_set, Nat.reduceAdd, Nat.reduceLeDiff, Nat.reduceLT, Nat.reduceSub, true_and, and_true, Bool.not_true, Bool.not_false, decide_true, decide_false, Int.reduceToNat, Int.reducePow, Int.reduceNeg, Int.cast_ofNat_Int, decide_eq_true_eq, Nat.zero_add, Nat.add_zero, Int.toNat_natCast, Int.reduceLT, Int.reduceLE, Int.reduceBNe, Int.reduceEq, Int.natCast_add, Nat.le_refl, pg4]
  refine wp_compF cal [c0, c1] (fun c => oW (D c)) (guOk_one pg4) (by simp) (fun c hc => ?_) ?_
  · have C : Cal c.1 c.2 := by
      simp only [List.mem_cons, List.not_mem_nil, or_false] at hc
      rcases hc with rfl | rfl
      · exact C0
      · exact C1
    try simp -implicitDefEqProofs -dsimp (disch := first | omega | (simp only [List.length_set, List.length_append, List.length_cons, List.length_nil, List.length_map]; omega)) only [↓wp_ok, ↓wp_err, ↓wp_exc, ↓wp_bind, ↓wp_var, ↓wp_cst, ↓wp_bin, ↓wp_neg, ↓wp_cmp, ↓wp_and, ↓wp_or, ↓wp_not, ↓wp_ite, ↓wp_tup, ↓wp_lst, ↓wp_idx, ↓wp_slc, ↓wp_call, ↓wp_bi, ↓wp_bl, ↓wp_mt, ↓wp_mk, ↓wp_lr1, ↓wp_lr2, ↓wp_aa, ↓wp_tr2, ↓wp_maxD, ↓wp_srt, ↓wp_glc, ↓wp_rgN, ↓wp_srtD, ↓wp_lc2, ↓wp_i3, ↓wp_iv, ↓mt_pp, ↓mt_ppA, ↓wp_esn, ↓wp_esc, ↓wp_pn, ↓wp_pa, ↓wp_tv, ↓wp_ta, ↓wp_to, ↓wp_tn, ↓wp_lo, ↓wp_ld, ↓wp_lc, ↓wp_tsn, ↓wp_tsc, ↓wp_io, ↓wp_i1, ↓wp_i2, ↓wp_iz, ↓wp_ie, ↓wo_some, ↓wo_none, ↓br_t, ↓br_f, ↓wps_ok, ↓wps_st, ↓wb_add, ↓wb_sub, ↓wb_mulR, ↓wb_mulL, ↓wb_div, ↓wb_mod, ↓wb_pow, ↓wb_addT, ↓wb_mulT, ↓wb_addL, ↓wb_mulLs, ↓wn_neg, ↓wc_eq, ↓wc_ne, ↓wc_lt, ↓wc_le, ↓wc_gt, ↓wc_ge, ↓wc_in, ↓wc_nin, ↓wc_isN, ↓wc_notN, ↓item_int, ↓sl_tup, ↓sl_ref, ↓bi_len, ↓bi_abs, ↓bi_int, ↓bi_intb, ↓bi_isI, ↓bi_max, ↓bi_min, ↓bi_divmod, ↓bi_lcm, ↓bi_gcd, ↓bl_sum, ↓bl_tuple, ↓bl_list, ↓bl_len, ↓bl_max, ↓bl_min, ↓mt_app, ↓mt_ext, ↓mt_ix, ↓setIt_ref, ↓ws_n, ↓ws_c, ↓ws_expr, ↓ws_asg, ↓ws_set, ↓ws_aug, ↓ws_augS, ↓ws_bad, ↓ws_if, ↓ws_for, ↓ws_whl, ↓ws_ret, ↓ws_retN, ↓ws_brk, ↓ws_cont, ↓ws_pass, ↓sq_n, ↓sq_b, ↓sq_c, ↓sq_r, ↓sq_z, ↓fin_ret, ↓fin_next, ↓fin_rz, ↓isTy_cv, ↓isTy_rt, ↓tr_cv, ↓tr_rt, look_z, look_s, rgW_rg, isNon_non, isNon_bl, isNon_int, isNon_str, isNon_tup, isNon_fl, isNon_ref, eqW_int, eqW_bl, tr_non, tr_bl, tr_int, tr_tup, ixN_in, ixN_neg, mtW_ref, seqOf_ref, seqOf_tup, seqOf_fl, seqOf_rt, seqOf_cv, isNon_rt, isNon_cv, isTup_rt, isTup_cv, guOf_rt, guOf_cv, isTy_rt, isTy_cv, cv_eq, rt_eq, asg_rt, asg_cv, asg_var, asg_tup2, asg_tup3, isTy, guOf, isTup, intW, aug_add, aug_sub, augO_a, augO_s, lstAt_z, lstAt_s, lstAt_al, lstAt_e, lstAt_ar, Nat.sub_self, Nat.add_sub_cancel_left, Nat.reduceSubDiff, List.append_assoc, lstAt_set, lstAt_ne, toInts_ints, toInts_nil, toInts_cons, toBls_nil, toBls_cons, Option.map_some, List.set_cons_succ, List.set_cons_zero, List.getElem?_cons_zero, List.getElem?_cons_succ, List.getElem_cons_zero, List.getElem_cons_succ, List.length_cons, List.length_nil, List.length_set, List.length_append, List.length_map, List.nil_append, List.cons_append, List.append_nil, List.set_set, Nat.reduceAdd, Nat.reduceLeDiff, Nat.reduceLT, Nat.reduceSub, true_and, and_true, Bool.not_true, Bool.not_false, decide_true, decide_false, Int.reduceToNat, Int.reducePow, Int.reduceNeg, Int.cast_ofNat_Int, decide_eq_true_eq, Nat.zero_add, Nat.add_zero, Int.toNat_natCast, Int.reduceLT, Int.reduceLE, Int.reduceBNe, Int.reduceEq, Int.natCast_add, Nat.le_refl, wipe, c_law_1, cal]
    rw [last_ok C (by omega) (hD c C), wp_ok]
    exact ⟨rfl, rfl⟩
  have pg5' : lstAt (g4 ++ [.lst [oW (D c0), oW (D c1)]]) 2 = some [cal c0, cal c1] := by rw [lst_old len4, pg4]
  try simp -implicitDefEqProofs -dsimp (disch := first | omega | (simp only [List.length_set, List.length_append, List.length_cons, List.length_nil, List.length_map]; omega)) only [↓wp_ok, ↓wp_err, ↓wp_exc, ↓wp_bind, ↓wp_var, ↓wp_cst, ↓wp_bin, ↓wp_neg, ↓wp_cmp, ↓wp_and, ↓wp_or, ↓wp_not, ↓wp_ite, ↓wp_tup, ↓wp_lst, ↓wp_idx, ↓wp_slc, ↓wp_call, ↓wp_bi, ↓wp_bl, ↓wp_mt, ↓wp_mk, ↓wp_lr1, ↓wp_lr2, ↓wp_aa, ↓wp_tr2, ↓wp_maxD, ↓wp_srt, ↓wp_glc, ↓wp_rgN, ↓wp_srtD, ↓wp_lc2, ↓wp_i3, ↓wp_iv, ↓mt_pp, ↓mt_ppA, ↓wp_esn, ↓wp_esc, ↓wp_pn, ↓wp_pa, ↓wp_tv, ↓wp_ta, ↓wp_to, ↓wp_tn, ↓wp_lo, ↓wp_ld, ↓wp_lc, ↓wp_tsn, ↓wp_tsc, ↓wp_io, ↓wp_i1, ↓wp_i2, ↓wp_iz, ↓wp_ie, ↓wo_some, ↓wo_none, ↓br_t, ↓br_f, ↓wps_ok, ↓wps_st, ↓wb_add, ↓wb_sub, ↓wb_mulR, ↓wb_mulL, ↓wb_div, ↓wb_mod, ↓wb_pow, ↓wb_addT, ↓wb_mulT, ↓wb_addL, ↓wb_mulLs, ↓wn_neg, ↓wc_eq, ↓wc_ne, ↓wc_lt, ↓wc_le, ↓wc_gt, ↓wc_ge, ↓wc_in, ↓wc_nin, ↓wc_isN, ↓wc_notN, ↓item_int, ↓sl_tup, ↓sl_ref, ↓bi_len, ↓bi_abs, ↓bi_int, ↓bi_intb, ↓bi_isI, ↓bi_max, ↓bi_min, ↓bi_divmod, ↓bi_lcm, ↓bi_gcd, ↓bl_sum, ↓bl_tuple, ↓bl_list, ↓bl_len, ↓bl_max, ↓bl_min, ↓mt_app, ↓mt_ext, ↓mt_ix, ↓setIt_ref, ↓ws_n, ↓ws_c, ↓ws_expr, ↓ws_asg, ↓ws_set, ↓ws_aug, ↓ws_augS, ↓ws_bad, ↓ws_if, ↓ws_for, ↓ws_whl, ↓ws_ret, ↓ws_retN, ↓ws_brk, ↓ws_cont, ↓ws_pass, ↓sq_n, ↓sq_b, ↓sq_c, ↓sq_r, ↓sq_z, ↓fin_ret, ↓fin_next, ↓fin_rz, ↓isTy_cv, ↓isTy_rt, ↓tr_cv, ↓tr_rt, look_z, look_s, rgW_rg, isNon_non, isNon_bl, isNon_int, isNon_str, isNon_tup, isNon_fl, isNon_ref, eqW_int, eqW_bl, tr_non, tr_bl, tr_int, tr_tup, ixN_in, ixN_neg, mtW_ref, seqOf_ref, seqOf_tup, seqOf_fl, seqOf_rt, seqOf_cv, isNon_rt, isNon_cv, isTup_rt, isTup_cv, guOf_rt, guOf_cv, isTy_rt, isTy_cv, cv_eq, rt_eq, asg_rt, asg_cv, asg_var, asg_tup2, asg_tup3, isTy, guOf, isTup, intW, aug_add, aug_sub, augO_a, augO_s, lstAt_z, lstAt_s, lstAt_al, lstAt_e, lstAt_ar, Nat.sub_self, Nat.add_sub_cancel_left, Nat.reduceSubDiff, List.append_assoc, lstAt_set, lstAt_ne, toInts_ints, toInts_nil, toInts_cons, toBls_nil, toBls_cons, Option.map_some, List.set_cons_succ, List.set_cons_zero, List.getElem?_cons_zero, List.getElem?_cons_succ, List.getElem_cons_zero, List.getElem_cons_succ, List.length_cons, List.length_nil, List.length_set, List.length_append, List.length_map, List.nil_append, List.cons_append, List.append_nil, List.set_set, Nat.reduceAdd, Nat.reduceLeDiff, Nat.reduceLT, Nat.reduceSub, true_and, and_true, Bool.not_true, Bool.not_false, decide_true, decide_false, Int.reduceToNat, Int.reducePow, Int.reduceNeg, Int.cast_ofNat_Int, decide_eq_true_eq, Nat.zero_add, Nat.add_zero, Int.toNat_natCast, Int.reduceLT, Int.reduceLE, Int.reduceBNe, Int.reduceEq, Int.natCast_add, Nat.le_refl, pg4, List.map_cons, List.map_nil]
  refine wp_compF cal [c0, c1] (fun c => .int ((els (N c) (c.1.length + c.2.length)).foldl max 0)) (guOk_one pg5') (by simp) (fun c hc => ?_) ?_
  · have C : Cal c.1 c.2 := by
      simp only [List.mem_cons, List.not_mem_nil, or_false] at hc
      rcases hc with rfl | rfl
      · exact C0
      · exact C1
    try simp -implicitDefEqProofs -dsimp (disch := first | omega | (simp only [List.length_set, List.length_append, List.length_cons, List.length_nil, List.length_map]; omega)) only [↓wp_ok, ↓wp_err, ↓wp_exc, ↓wp_bind, ↓wp_var, ↓wp_cst, ↓wp_bin, ↓wp_neg, ↓wp_cmp, ↓wp_and, ↓wp_or, ↓wp_not, ↓wp_ite, ↓wp_tup, ↓wp_lst, ↓wp_idx, ↓wp_slc, ↓wp_call, ↓wp_bi, ↓wp_bl, ↓wp_mt, ↓wp_mk, ↓wp_lr1, ↓wp_lr2, ↓wp_aa, ↓wp_tr2, ↓wp_maxD, ↓wp_srt, ↓wp_glc, ↓wp_rgN, ↓wp_srtD, ↓wp_lc2, ↓wp_i3, ↓wp_iv, ↓mt_pp, ↓mt_ppA, ↓wp_esn, ↓wp_esc, ↓wp_pn, ↓wp_pa, ↓wp_tv, ↓wp_ta, ↓wp_to, ↓wp_tn, ↓wp_lo, ↓wp_ld, ↓wp_lc, ↓wp_tsn, ↓wp_tsc, ↓wp_io, ↓wp_i1, ↓wp_i2, ↓wp_iz, ↓wp_ie, ↓wo_some, ↓wo_none, ↓br_t, ↓br_f, ↓wps_ok, ↓wps_st, ↓wb_add, ↓wb_sub, ↓wb_mulR, ↓wb_mulL, ↓wb_div, ↓wb_mod, ↓wb_pow, ↓wb_addT, ↓wb_mulT, ↓wb_addL, ↓wb_mulLs, ↓wn_neg, ↓wc_eq, ↓wc_ne, ↓wc_lt, ↓wc_le, ↓wc_gt, ↓wc_ge, ↓wc_in, ↓wc_nin, ↓wc_isN, ↓wc_notN, ↓item_int, ↓sl_tup, ↓sl_ref, ↓bi_len, ↓bi_abs, ↓bi_int, ↓bi_intb, ↓bi_isI, ↓bi_max, ↓bi_min, ↓bi_divmod, ↓bi_lcm, ↓bi_gcd, ↓bl_sum, ↓bl_tuple, ↓bl_list, ↓bl_len, ↓bl_max, ↓bl_min, ↓mt_app, ↓mt_ext, ↓mt_ix, ↓setIt_ref, ↓ws_n, ↓ws_c, ↓ws_expr, ↓ws_asg, ↓ws_set, ↓ws_aug, ↓ws_augS, ↓ws_bad, ↓ws_if, ↓ws_for, ↓ws_whl, ↓ws_ret, ↓ws_retN, ↓ws_brk, ↓ws_cont, ↓ws_pass, ↓sq_n, ↓sq_b, ↓sq_c, ↓sq_r, ↓sq_z, ↓fin_ret, ↓fin_next, ↓fin_rz, ↓isTy_cv, ↓isTy_rt, ↓tr_cv, ↓tr_rt, look_z, look_s, rgW_rg, isNon_non, isNon_bl, isNon_int, isNon_str, isNon_tup, isNon_fl, isNon_ref, eqW_int, eqW_bl, tr_non, tr_bl, tr_int, tr_tup, ixN_in, ixN_neg, mtW_ref, seqOf_ref, seqOf_tup, seqOf_fl, seqOf_rt, seqOf_cv, isNon_rt, isNon_cv, isTup_rt, isTup_cv, guOf_rt, guOf_cv, isTy_rt, isTy_cv, cv_eq, rt_eq, asg_rt, asg_cv, asg_var, asg_tup2, asg_tup3, isTy, guOf, isTup, intW, aug_add, aug_sub, augO_a, augO_s, lstAt_z, lstAt_s, lstAt_al, lstAt_e, lstAt_ar, Nat.sub_self, Nat.add_sub_cancel_left, Nat.reduceSubDiff, List.append_assoc, lstAt_set, lstAt_ne, toInts_ints, toInts_nil, toInts_cons, toBls_nil, toBls_cons, Option.map_some, List.set_cons_succ, List.set_cons_zero, List.getElem?_cons_zero, List.getElem?_cons_succ, List.getElem_cons_zero, List.getElem_cons_succ, List.length_cons, List.length_nil, List.length_set, List.length_append, List.length_map, List.nil_append, List.cons_append, List.append_nil, List.set_set, Nat.reduceAdd, Nat.reduceLeDiff, Nat.reduceLT, Nat.reduceSub, true_and, and_true, Bool.not_true, Bool.not_false, decide_true, decide_false, Int.reduceToNat, Int.reducePow, Int.reduceNeg, Int.cast_ofNat_Int, decide_eq_true_eq, Nat.zero_add, Nat.add_zero, Int.toNat_natCast, Int.reduceLT, Int.reduceLE, Int.reduceBNe, Int.reduceEq, Int.natCast_add, Nat.le_refl, wipe, c_law_2, cal]
    rw [longest_ok C (by omega) (hN c C), wp_ok]
    exact ⟨rfl, rfl⟩
  generalize hM : (fun c : List Int × List Int => (els (N c) (c.1.length + c.2.length)).foldl max 0) = M
  have hM' : ∀ c, (els (N c) (c.1.length + c.2.length)).foldl max 0 = M c := fun c => by rw [← hM]
  have hM0 : (els (N c0) (c0.1.length + c0.2.length)).foldl max 0 = M c0 := hM' c0
  have hM1 : (els (N c1) (c1.1.length + c1.2.length)).foldl max 0 = M c1 := hM' c1
  try simp -implicitDefEqProofs -dsimp (disch := first | omega | (simp only [List.length_set, List.length_append, List.length_cons, List.length_nil, List.length_map]; omega)) only [↓wp_ok, ↓wp_err, ↓wp_exc, ↓wp_bind, ↓wp_var, ↓wp_cst, ↓wp_bin, ↓wp_neg, ↓wp_cmp, ↓wp_and, ↓wp_or, ↓wp_not, ↓wp_ite, ↓wp_tup, ↓wp_lst, ↓wp_idx, ↓wp_slc, ↓wp_call, ↓wp_bi, ↓wp_bl, ↓wp_mt, ↓wp_mk, ↓wp_lr1, ↓wp_lr2, ↓wp_aa, ↓wp_tr2, ↓wp_maxD, ↓wp_srt, ↓wp_glc, ↓wp_rgN, ↓wp_srtD, ↓wp_lc2, ↓wp_i3, ↓wp_iv, ↓mt_pp, ↓mt_ppA, ↓wp_esn, ↓wp_esc, ↓wp_pn, ↓wp_pa, ↓wp_tv, ↓wp_ta, ↓wp_to, ↓wp_tn, ↓wp_lo, ↓wp_ld, ↓wp_lc, ↓wp_tsn, ↓wp_tsc, ↓wp_io, ↓wp_i1, ↓wp_i2, ↓wp_iz, ↓wp_ie, ↓wo_some, ↓wo_none, ↓br_t, ↓br_f, ↓wps_ok, ↓wps_st, ↓wb_add, ↓wb_sub, ↓wb_mulR, ↓wb_mulL, ↓wb_div, ↓wb_mod, ↓wb_pow, ↓wb_addT, ↓wb_mulT, ↓wb_addL, ↓wb_mulLs, ↓wn_neg, ↓wc_eq, ↓wc_ne, ↓wc_lt, ↓wc_le, ↓wc_gt, ↓wc_ge, ↓wc_in, ↓wc_nin, ↓wc_isN, ↓wc_notN, ↓item_int, ↓sl_tup, ↓sl_ref, ↓bi_len, ↓bi_abs, ↓bi_int, ↓bi_intb, ↓bi_isI, ↓bi_max, ↓bi_min, ↓bi_divmod, ↓bi_lcm, ↓bi_gcd, ↓bl_sum, ↓bl_tuple, ↓bl_list, ↓bl_len, ↓bl_max, ↓bl_min, ↓mt_app, ↓mt_ext, ↓mt_ix, ↓setIt_ref, ↓ws_n, ↓ws_c, ↓ws_expr, ↓ws_asg, ↓ws_set, ↓ws_aug, ↓ws_augS, ↓ws_bad, ↓ws_if, ↓ws_for, ↓ws_whl, ↓ws_ret, ↓ws_retN, ↓ws_brk, ↓ws_cont, ↓ws_pass, ↓sq_n, ↓sq_b, ↓sq_c, ↓sq_r, ↓sq_z, ↓fin_ret, ↓fin_next, ↓fin_rz, ↓isTy_cv, ↓isTy_rt, ↓tr_cv, ↓tr_rt, look_z, look_s, rgW_rg, isNon_non, isNon_bl, isNon_int, isNon_str, isNon_tup, isNon_fl, isNon_ref, eqW_int, eqW_bl, tr_non, tr_bl, tr_int, tr_tup, ixN_in, ixN_neg, mtW_ref, seqOf_ref, seqOf_tup, seqOf_fl, seqOf_rt, seqOf_cv, isNon_rt, isNon_cv, isTup_rt, isTup_cv, guOf_rt, guOf_cv, isTy_rt, isTy_cv, cv_eq, rt_eq, asg_rt, asg_cv, asg_var, asg_tup2, asg_tup3, isTy, guOf, isTup, intW, aug_add, aug_sub, augO_a, augO_s, lstAt_z, lstAt_s, lstAt_al, lstAt_e, lstAt_ar, Nat.sub_self, Nat.add_sub_cancel_left, Nat.reduceSubDiff, List.append_assoc, lstAt_set, lstAt_ne, toInts_ints, toInts_nil, toInts_cons, toBls_nil, toBls_cons, Option.map_some, List.set_cons_succ, List.set_cons_zero, List.getElem?_cons_zero, List.getElem?_cons_succ, List.getElem_cons_zero, List.getElem_cons_succ, List.length_cons, List.length_nil, List.length_set, List.length_append, List.length_map, List.nil_append, List.cons_append, List.append_nil, List.set_set, Nat.reduceAdd, Nat.reduceLeDiff, Nat.reduceLT, Nat.reduceSub, true_and, and_true, Bool.not_true, Bool.not_false, decide_true, decide_false, Int.reduceToNat, Int.reducePow, Int.reduceNeg, Int.cast_ofNat_Int, decide_eq_true_eq, Nat.zero_add, Nat.add_zero, Int.toNat_natCast, Int.reduceLT, Int.reduceLE, Int.reduceBNe, Int.reduceEq, Int.natCast_add, Nat.le_refl, hM0, hM1]
  generalize hA : g4.length = A
  refine draw2 (F4.tp.app _) (by omega) fun r5 g5 a5 b5 F5 L5 => ?_
  have F5' : Fr 0 1 g g5 := (F4'.app _).trans F5
  have pg5 : lstAt g5 2 = some [cal c0, cal c1] := by rw [F5'.lst (by omega) (by omega), pg]
  have eg5 : lstAt g5 A = some [oW (D c0), oW (D c1)] := by rw [F5.lst (by simp; omega) (by omega), lst_new hA (Nat.le_refl _), Nat.sub_self]; rfl
  have em5 : lstAt g5 (A + 1) = some [.int (M c0), .int (M c1)] := by rw [F5.lst (by simp; omega) (by omega), lst_new hA (by omega), Nat.add_sub_cancel_left, ← hM0, ← hM1]; rfl
  have pick : ∀ j : Nat, j < 2 → ∃ c, Cal c.1 c.2 ∧ [cal c0, cal c1][j]? = some (cv 0 c.1 c.2) ∧ [oW (D c0), oW (D c1)][j]? = some (oW (D c)) ∧ [W.int (M c0), W.int (M c1)][j]? = some (.int (M c)) := fun j hj => by
    have : j = 0 ∨ j = 1 := by omega
    rcases this with rfl | rfl
    · exact ⟨c0, C0, rfl, rfl, rfl⟩
    · exact ⟨c1, C1, rfl, rfl, rfl⟩
  obtain ⟨f, hf⟩ : ∃ f : Nat, (f : Int) = r5 := ⟨r5.toNat, by omega⟩
  subst hf
  have hf2 : f < 2 := by omega
  have ef : (1 : Int) - (f : Int) = ((1 - f : Nat) : Int) := by omega
  try simp -implicitDefEqProofs -dsimp (disch := first | omega | (simp only [List.length_set, List.length_append, List.length_cons, List.length_nil, List.length_map]; omega)) only [↓wp_ok, ↓wp_err, ↓wp_exc, ↓wp_bind, ↓wp_var, ↓wp_cst, ↓wp_bin, ↓wp_neg, ↓wp_cmp, ↓wp_and, ↓wp_or, ↓wp_not, ↓wp_ite, ↓wp_tup, ↓wp_lst, ↓wp_idx, ↓wp_slc, ↓wp_call, ↓wp_bi, ↓wp_bl, ↓wp_mt, ↓wp_mk, ↓wp_lr1, ↓wp_lr2, ↓wp_aa, ↓wp_tr2, ↓wp_maxD, ↓wp_srt, ↓wp_glc, ↓wp_rgN, ↓wp_srtD, ↓wp_lc2, ↓wp_i3, ↓wp_iv, ↓mt_pp, ↓mt_ppA, ↓wp_esn, ↓wp_esc, ↓wp_pn, ↓wp_pa, ↓wp_tv, ↓wp_ta, ↓wp_to, ↓wp_tn, ↓wp_lo, ↓wp_ld, ↓wp_lc, ↓wp_tsn, ↓wp_tsc, ↓wp_io, ↓wp_i1, ↓wp_i2, ↓wp_iz, ↓wp_ie, ↓wo_some, ↓wo_none, ↓br_t, ↓br_f, ↓wps_ok, ↓wps_st, ↓wb_add, ↓wb_sub, ↓wb_mulR, ↓wb_mulL, ↓wb_div, ↓wb_mod, ↓wb_pow, ↓wb_addT, ↓wb_mulT, ↓wb_addL, ↓wb_mulLs, ↓wn_neg, ↓wc_eq, ↓wc_ne, ↓wc_lt, ↓wc_le, ↓wc_gt, ↓wc_ge, ↓wc_in, ↓wc_nin, ↓wc_isN, ↓wc_notN, ↓item_int, ↓sl_tup, ↓sl_ref, ↓bi_len, ↓bi_abs, ↓bi_int, ↓bi_intb, ↓bi_isI, ↓bi_max, ↓bi_min, ↓bi_divmod, ↓bi_lcm, ↓bi_gcd, ↓bl_sum, ↓bl_tuple, ↓bl_list, ↓bl_len, ↓bl_max, ↓bl_min, ↓mt_app, ↓mt_ext, ↓mt_ix, ↓setIt_ref, ↓ws_n, ↓ws_c, ↓ws_expr, ↓ws_asg, ↓ws_set, ↓ws_aug, ↓ws_augS, ↓ws_bad, ↓ws_if, ↓ws_for, ↓ws_whl, ↓ws_ret, ↓ws_retN, ↓ws_brk, ↓ws_cont, ↓ws_pass, ↓sq_n, ↓sq_b, ↓sq_c, ↓sq_r, ↓sq_z, ↓fin_ret, ↓fin_next, ↓fin_rz, ↓isTy_cv, ↓isTy_rt, ↓tr_cv, ↓tr_rt, look_z, look_s, rgW_rg, isNon_non, isNon_bl, isNon_int, isNon_str, isNon_tup, isNon_fl, isNon_ref, eqW_int, eqW_bl, tr_non, tr_bl, tr_int, tr_tup, ixN_in, ixN_neg, mtW_ref, seqOf_ref, seqOf_tup, seqOf_fl, seqOf_rt, seqOf_cv, isNon_rt, isNon_cv, isTup_rt, isTup_cv, guOf_rt, guOf_cv, isTy_rt, isTy_cv, cv_eq, rt_eq, asg_rt, asg_cv, asg_var, asg_tup2, asg_tup3, isTy, guOf, isTup, intW, aug_add, aug_sub, augO_a, augO_s, lstAt_z, lstAt_s, lstAt_al, lstAt_e, lstAt_ar, Nat.sub_self, Nat.add_sub_cancel_left, Nat.reduceSubDiff, List.append_assoc, lstAt_set, lstAt_ne, toInts_ints, toInts_nil, toInts_cons, toBls_nil, toBls_cons, Option.map_some, List.set_cons_succ, List.set_cons_zero, List.getElem?_cons_zero, List.getElem?_cons_succ, List.getElem_cons_zero, List.getElem_cons_succ, List.length_cons, List.length_nil, List.length_set, List.length_append, List.length_map, List.nil_append, List.cons_append, List.append_nil, List.set_set, Nat.reduceAdd, Nat.reduceLeDiff, Nat.reduceLT, Nat.reduceSub, true_and, and_true, Bool.not_true, Bool.not_false, decide_true, decide_false, Int.reduceToNat, Int.reducePow, Int.reduceNeg, Int.cast_ofNat_Int, decide_eq_true_eq, Nat.zero_add, Nat.add_zero, Int.toNat_natCast, Int.reduceLT, Int.reduceLE, Int.reduceBNe, Int.reduceEq, Int.natCast_add, Nat.le_refl, ef]
  refine wps_for (fun n : Nat => W.int n) [f, 1 - f] (fun _ ρ g' => g' = g5 ∧ ∃ x9 x10, ρ = [ρ0, some (.ref 1), some (.ref 2), ρ3, some (.int e), some (.int hr), some (.ref A), some (.ref (A + 1)), some (.int f), x9, x10, ρ11]) (fun _ _ _ _ => guOk_nil) ?_ ⟨rfl, _, _, rfl⟩ ?_
  · rintro pre w suf ρ g' ee ⟨rfl, x9, x10, rfl⟩
    have hw : w = 0 ∨ w = 1 := by
      have : w ∈ [f, 1 - f] := by rw [ee]; simp
      simp at this
      omega
    try simp -implicitDefEqProofs -dsimp (disch := first | omega | (simp only [List.length_set, List.length_append, List.length_cons, List.length_nil, List.length_map]; omega)) only [↓wp_ok, ↓wp_err, ↓wp_exc, ↓wp_bind, ↓wp_var, ↓wp_cst, ↓wp_bin, ↓wp_neg, ↓wp_cmp, ↓wp_and, ↓wp_or, ↓wp_not, ↓wp_ite, ↓wp_tup, ↓wp_lst, ↓wp_idx, ↓wp_slc, ↓wp_call, ↓wp_bi, ↓wp_bl, ↓wp_mt, ↓wp_mk, ↓wp_lr1, ↓wp_lr2, ↓wp_aa, ↓wp_tr2, ↓wp_maxD, ↓wp_srt, ↓wp_glc, ↓wp_rgN, ↓wp_srtD, ↓wp_lc2, ↓wp_i3, ↓wp_iv, ↓mt_pp, ↓mt_ppA, ↓wp_esn, ↓wp_esc, ↓wp_pn, ↓wp_pa, ↓wp_tv, ↓wp_ta, ↓wp_to, ↓wp_tn, ↓wp_lo, ↓wp_ld, ↓wp_lc, ↓wp_tsn, ↓wp_tsc, ↓wp_io, ↓wp_i1, ↓wp_i2, ↓wp_iz, ↓wp_ie, ↓wo_some, ↓wo_none, ↓br_t, ↓br_f, ↓wps_ok, ↓wps_st, ↓wb_add, ↓wb_sub, ↓wb_mulR, ↓wb_mulL, ↓wb_div, ↓wb_mod, ↓wb_pow, ↓wb_addT, ↓wb_mulT, ↓wb_addL, ↓wb_mulLs, ↓wn_neg, ↓wc_eq, ↓wc_ne, ↓wc_lt, ↓wc_le, ↓wc_gt, ↓wc_ge, ↓wc_in, ↓wc_nin, ↓wc_isN, ↓wc_notN, ↓item_int, ↓sl_tup, ↓sl_ref, ↓bi_len, ↓bi_abs, ↓bi_int, ↓bi_intb, ↓bi_isI, ↓bi_max, ↓bi_min, ↓bi_divmod, ↓bi_lcm, ↓bi_gcd, ↓bl_sum, ↓bl_tuple, ↓bl_list, ↓bl_len, ↓bl_max, ↓bl_min, ↓mt_app, ↓mt_ext, ↓mt_ix, ↓setIt_ref, ↓ws_n, ↓ws_c, ↓ws_expr, ↓ws_asg, ↓ws_set, ↓ws_aug, ↓ws_augS, ↓ws_bad, ↓ws_if, ↓ws_for, ↓ws_whl, ↓ws_ret, ↓ws_retN, ↓ws_brk, ↓ws_cont, ↓ws_pass, ↓sq_n, ↓sq_b, ↓sq_c, ↓sq_r, ↓sq_z, ↓fin_ret, ↓fin_next, ↓fin_rz, ↓isTy_cv, ↓isTy_rt, ↓tr_cv, ↓tr_rt, look_z, look_s, rgW_rg, isNon_non, isNon_bl, isNon_int, isNon_str, isNon_tup, isNon_fl, isNon_ref, eqW_int, eqW_bl, tr_non, tr_bl, tr_int, tr_tup, ixN_in, ixN_neg, mtW_ref, seqOf_ref, seqOf_tup, seqOf_fl, seqOf_rt, seqOf_cv, isNon_rt, isNon_cv, isTup_rt, isTup_cv, guOf_rt, guOf_cv, isTy_rt, isTy_cv, cv_eq, rt_eq, asg_rt, asg_cv, asg_var, asg_tup2, asg_tup3, isTy, guOf, isTup, intW, aug_add, aug_sub, augO_a, augO_s, lstAt_z, lstAt_s, lstAt_al, lstAt_e, lstAt_ar, Nat.sub_self, Nat.add_sub_cancel_left, Nat.reduceSubDiff, List.append_assoc, lstAt_set, lstAt_ne, toInts_ints, toInts_nil, toInts_cons, toBls_nil, toBls_cons, Option.map_some, List.set_cons_succ, List.set_cons_zero, List.getElem?_cons_zero, List.getElem?_cons_succ, List.getElem_cons_zero, List.getElem_cons_succ, List.length_cons, List.length_nil, List.length_set, List.length_append, List.length_map, List.nil_append, List.cons_append, List.append_nil, List.set_set, Nat.reduceAdd, Nat.reduceLeDiff, Nat.reduceLT, Nat.reduceSub, true_and, and_true, Bool.not_true, Bool.not_false, decide_true, decide_false, Int.reduceToNat, Int.reducePow, Int.reduceNeg, Int.cast_ofNat_Int, decide_eq_true_eq, Nat.zero_add, Nat.add_zero, Int.toNat_natCast, Int.reduceLT, Int.reduceLE, Int.reduceBNe, Int.reduceEq, Int.natCast_add, Nat.le_refl, b_law_4]
    refine wps_for (fun n : Nat => W.int n) [0, 1, 0] (fun _ ρ g'' => g'' = g' ∧ ∃ x10, ρ = [ρ0, some (.ref 1), some (.ref 2), ρ3, some (.int e), some (.int hr), some (.ref A), some (.ref (A + 1)), some (.int f), some (.int w), x10, ρ11]) (fun _ _ _ _ => guOk_nil) ?_ ⟨rfl, _, rfl⟩ ?_
    · rintro pre2 j suf2 ρ g'' e2 ⟨rfl, x10', rfl⟩
      have hj : j < 2 := by
        have : j ∈ [0, 1, 0] := by rw [e2]; simp
        simp at this
        omega
      obtain ⟨c, C, p1, p2, p3⟩ := pick j hj
      rcases hw with rfl | rfl
      · try simp -implicitDefEqProofs -dsimp (disch := first | omega | (simp only [List.length_set, List.length_append, List.length_cons, List.length_nil, List.length_map]; omega)) only [↓wp_ok, ↓wp_err, ↓wp_exc, ↓wp_bind, ↓wp_var, ↓wp_cst, ↓wp_bin, ↓wp_neg, ↓wp_cmp, ↓wp_and, ↓wp_or, ↓wp_not, ↓wp_ite, ↓wp_tup, ↓wp_lst, ↓wp_idx, ↓wp_slc, ↓wp_call, ↓wp_bi, ↓wp_bl, ↓wp_mt, ↓wp_mk, ↓wp_lr1, ↓wp_lr2, ↓wp_aa, ↓wp_tr2, ↓wp_maxD, ↓wp_srt, ↓wp_glc, ↓wp_rgN, ↓wp_srtD, ↓wp_lc2, ↓wp_i3, ↓wp_iv, ↓mt_pp, ↓mt_ppA, ↓wp_esn, ↓wp_esc, ↓wp_pn, ↓wp_pa, ↓wp_tv, ↓wp_ta, ↓wp_to, ↓wp_tn, ↓wp_lo, ↓wp_ld, ↓wp_lc, ↓wp_tsn, ↓wp_tsc, ↓wp_io, ↓wp_i1, ↓wp_i2, ↓wp_iz, ↓wp_ie, ↓wo_some, ↓wo_none, ↓br_t, ↓br_f, ↓wps_ok, ↓wps_st, ↓wb_add, ↓wb_sub, ↓wb_mulR, ↓wb_mulL, ↓wb_div, ↓wb_mod, ↓wb_pow, ↓wb_addT, ↓wb_mulT, ↓wb_addL, ↓wb_mulLs, ↓wn_neg, ↓wc_eq, ↓wc_ne, ↓wc_lt, ↓wc_le, ↓wc_gt, ↓wc_ge, ↓wc_in, ↓wc_nin, ↓wc_isN, ↓wc_notN, ↓item_int, ↓sl_tup, ↓sl_ref, ↓bi_len, ↓bi_abs, ↓bi_int, ↓bi_intb, ↓bi_isI, ↓bi_max, ↓bi_min, ↓bi_divmod, ↓bi_lcm, ↓bi_gcd, ↓bl_sum, ↓bl_tuple, ↓bl_list, ↓bl_len, ↓bl_max, ↓bl_min, ↓mt_app, ↓mt_ext, ↓mt_ix, ↓setIt_ref, ↓ws_n, ↓ws_c, ↓ws_expr, ↓ws_asg, ↓ws_set, ↓ws_aug, ↓ws_augS, ↓ws_bad, ↓ws_if, ↓ws_for, ↓ws_whl, ↓ws_ret, ↓ws_retN, ↓ws_brk, ↓ws_cont, ↓ws_pass, ↓sq_n, ↓sq_b, ↓sq_c, ↓sq_r, ↓sq_z, ↓fin_ret, ↓fin_next, ↓fin_rz, ↓isTy_cv, ↓isTy_rt, ↓tr_cv, ↓tr_rt, look_z, look_s, rgW_rg, isNon_non, isNon_bl, isNon_int, isNon_str, isNon_tup, isNon_fl, isNon_ref, eqW_int, eqW_bl, tr_non, tr_bl, tr_int, tr_tup, ixN_in, ixN_neg, mtW_ref, seqOf_ref, seqOf_tup, seqOf_fl, seqOf_rt, seqOf_cv, isNon_rt, isNon_cv, isTup_rt, isTup_cv, guOf_rt, guOf_cv, isTy_rt, isTy_cv, cv_eq, rt_eq, asg_rt, asg_cv, asg_var, asg_tup2, asg_tup3, isTy, guOf, isTup, intW, aug_add, aug_sub, augO_a, augO_s, lstAt_z, lstAt_s, lstAt_al, lstAt_e, lstAt_ar, Nat.sub_self, Nat.add_sub_cancel_left, Nat.reduceSubDiff, List.append_assoc, lstAt_set, lstAt_ne, toInts_ints, toInts_nil, toInts_cons, toBls_nil, toBls_cons, Option.map_some, List.set_cons_succ, List.set_cons_zero, List.getElem?_cons_zero, List.getElem?_cons_succ, List.getElem_cons_zero, List.getElem_cons_succ, List.length_cons, List.length_nil, List.length_set, List.length_append, List.length_map, List.nil_append, List.cons_append, List.append_nil, List.set_set, Nat.reduceAdd, Nat.reduceLeDiff, Nat.reduceLT, Nat.reduceSub, true_and, and_true, Bool.not_true, Bool.not_false, decide_true, decide_false, Int.reduceToNat, Int.reducePow, Int.reduceNeg, Int.cast_ofNat_Int, decide_eq_true_eq, Nat.zero_add, Nat.add_zero, Int.toNat_natCast, Int.reduceLT, Int.reduceLE, Int.reduceBNe, Int.reduceEq, Int.natCast_add, Nat.le_refl, b_law_3, pg5, p1, eg5, p2, Int.natCast_zero]
        rw [latest_ok C (hD c C), wp_ok]
        try simp -implicitDefEqProofs -dsimp (disch := first | omega | (simp only [List.length_set, List.length_append, List.length_cons, List.length_nil, List.length_map]; omega)) only [↓wp_ok, ↓wp_err, ↓wp_exc, ↓wp_bind, ↓wp_var, ↓wp_cst, ↓wp_bin, ↓wp_neg, ↓wp_cmp, ↓wp_and, ↓wp_or, ↓wp_not, ↓wp_ite, ↓wp_tup, ↓wp_lst, ↓wp_idx, ↓wp_slc, ↓wp_call, ↓wp_bi, ↓wp_bl, ↓wp_mt, ↓wp_mk, ↓wp_lr1, ↓wp_lr2, ↓wp_aa, ↓wp_tr2, ↓wp_maxD, ↓wp_srt, ↓wp_glc, ↓wp_rgN, ↓wp_srtD, ↓wp_lc2, ↓wp_i3, ↓wp_iv, ↓mt_pp, ↓mt_ppA, ↓wp_esn, ↓wp_esc, ↓wp_pn, ↓wp_pa, ↓wp_tv, ↓wp_ta, ↓wp_to, ↓wp_tn, ↓wp_lo, ↓wp_ld, ↓wp_lc, ↓wp_tsn, ↓wp_tsc, ↓wp_io, ↓wp_i1, ↓wp_i2, ↓wp_iz, ↓wp_ie, ↓wo_some, ↓wo_none, ↓br_t, ↓br_f, ↓wps_ok, ↓wps_st, ↓wb_add, ↓wb_sub, ↓wb_mulR, ↓wb_mulL, ↓wb_div, ↓wb_mod, ↓wb_pow, ↓wb_addT, ↓wb_mulT, ↓wb_addL, ↓wb_mulLs, ↓wn_neg, ↓wc_eq, ↓wc_ne, ↓wc_lt, ↓wc_le, ↓wc_gt, ↓wc_ge, ↓wc_in, ↓wc_nin, ↓wc_isN, ↓wc_notN, ↓item_int, ↓sl_tup, ↓sl_ref, ↓bi_len, ↓bi_abs, ↓bi_int, ↓bi_intb, ↓bi_isI, ↓bi_max, ↓bi_min, ↓bi_divmod, ↓bi_lcm, ↓bi_gcd, ↓bl_sum, ↓bl_tuple, ↓bl_list, ↓bl_len, ↓bl_max, ↓bl_min, ↓mt_app, ↓mt_ext, ↓mt_ix, ↓setIt_ref, ↓ws_n, ↓ws_c, ↓ws_expr, ↓ws_asg, ↓ws_set, ↓ws_aug, ↓ws_augS, ↓ws_bad, ↓ws_if, ↓ws_for, ↓ws_whl, ↓ws_ret, ↓ws_retN, ↓ws_brk, ↓ws_cont, ↓ws_pass, ↓sq_n, ↓sq_b, ↓sq_c, ↓sq_r, ↓sq_z, ↓fin_ret, ↓fin_next, ↓fin_rz, ↓isTy_cv, ↓isTy_rt, ↓tr_cv, ↓tr_rt, look_z, look_s, rgW_rg, isNon_non, isNon_bl, isNon_int, isNon_str, isNon_tup, isNon_fl, isNon_ref, eqW_int, eqW_bl, tr_non, tr_bl, tr_int, tr_tup, ixN_in, ixN_neg, mtW_ref, seqOf_ref, seqOf_tup, seqOf_fl, seqOf_rt, seqOf_cv, isNon_rt, isNon_cv, isTup_rt, isTup_cv, guOf_rt, guOf_cv, isTy_rt, isTy_cv, cv_eq, rt_eq, asg_rt, asg_cv, asg_var, asg_tup2, asg_tup3, isTy, guOf, isTup, intW, aug_add, aug_sub, augO_a, augO_s, lstAt_z, lstAt_s, lstAt_al, lstAt_e, lstAt_ar, Nat.sub_self, Nat.add_sub_cancel_left, Nat.reduceSubDiff, List.append_assoc, lstAt_set, lstAt_ne, toInts_ints, toInts_nil, toInts_cons, toBls_nil, toBls_cons, Option.map_some, List.set_cons_succ, List.set_cons_zero, List.getElem?_cons_zero, List.getElem?_cons_succ, List.getElem_cons_zero, List.getElem_cons_succ, List.length_cons, List.length_nil, List.length_set, List.length_append, List.length_map, List.nil_append, List.cons_append, List.append_nil, List.set_set, Nat.reduceAdd, Nat.reduceLeDiff, Nat.reduceLT, Nat.reduceSub, true_and, and_true, Bool.not_true, Bool.not_false, decide_true, decide_false, Int.reduceToNat, Int.reducePow, Int.reduceNeg, Int.cast_ofNat_Int, decide_eq_true_eq, Nat.zero_add, Nat.add_zero, Int.toNat_natCast, Int.reduceLT, Int.reduceLE, Int.reduceBNe, Int.reduceEq, Int.natCast_add, Nat.le_refl, pg5, p1, eg5, p2]
        rw [same_ok 0 (k + 4) (oW (D c)) (dt_oW _), wp_ok]
        try simp -implicitDefEqProofs -dsimp (disch := first | omega | (simp only [List.length_set, List.length_append, List.length_cons, List.length_nil, List.length_map]; omega)) only [↓wp_ok, ↓wp_err, ↓wp_exc, ↓wp_bind, ↓wp_var, ↓wp_cst, ↓wp_bin, ↓wp_neg, ↓wp_cmp, ↓wp_and, ↓wp_or, ↓wp_not, ↓wp_ite, ↓wp_tup, ↓wp_lst, ↓wp_idx, ↓wp_slc, ↓wp_call, ↓wp_bi, ↓wp_bl, ↓wp_mt, ↓wp_mk, ↓wp_lr1, ↓wp_lr2, ↓wp_aa, ↓wp_tr2, ↓wp_maxD, ↓wp_srt, ↓wp_glc, ↓wp_rgN, ↓wp_srtD, ↓wp_lc2, ↓wp_i3, ↓wp_iv, ↓mt_pp, ↓mt_ppA, ↓wp_esn, ↓wp_esc, ↓wp_pn, ↓wp_pa, ↓wp_tv, ↓wp_ta, ↓wp_to, ↓wp_tn, ↓wp_lo, ↓wp_ld, ↓wp_lc, ↓wp_tsn, ↓wp_tsc, ↓wp_io, ↓wp_i1, ↓wp_i2, ↓wp_iz, ↓wp_ie, ↓wo_some, ↓wo_none, ↓br_t, ↓br_f, ↓wps_ok, ↓wps_st, ↓wb_add, ↓wb_sub, ↓wb_mulR, ↓wb_mulL, ↓wb_div, ↓wb_mod, ↓wb_pow, ↓wb_addT, ↓wb_mulT, ↓wb_addL, ↓wb_mulLs, ↓wn_neg, ↓wc_eq, ↓wc_ne, ↓wc_lt, ↓wc_le, ↓wc_gt, ↓wc_ge, ↓wc_in, ↓wc_nin, ↓wc_isN, ↓wc_notN, ↓item_int, ↓sl_tup, ↓sl_ref, ↓bi_len, ↓bi_abs, ↓bi_int, ↓bi_intb, ↓bi_isI, ↓bi_max, ↓bi_min, ↓bi_divmod, ↓bi_lcm, ↓bi_gcd, ↓bl_sum, ↓bl_tuple, ↓bl_list, ↓bl_len, ↓bl_max, ↓bl_min, ↓mt_app, ↓mt_ext, ↓mt_ix, ↓setIt_ref, ↓ws_n, ↓ws_c, ↓ws_expr, ↓ws_asg, ↓ws_set, ↓ws_aug, ↓ws_augS, ↓ws_bad, ↓ws_if, ↓ws_for, ↓ws_whl, ↓ws_ret, ↓ws_retN, ↓ws_brk, ↓ws_cont, ↓ws_pass, ↓sq_n, ↓sq_b, ↓sq_c, ↓sq_r, ↓sq_z, ↓fin_ret, ↓fin_next, ↓fin_rz, ↓isTy_cv, ↓isTy_rt, ↓tr_cv, ↓tr_rt, look_z, look_s, rgW_rg, isNon_non, isNon_bl, isNon_int, isNon_str, isNon_tup, isNon_fl, isNon_ref, eqW_int, eqW_bl, tr_non, tr_bl, tr_int, tr_tup, ixN_in, ixN_neg, mtW_ref, seqOf_ref, seqOf_tup, seqOf_fl, seqOf_rt, seqOf_cv, isNon_rt, isNon_cv, isTup_rt, isTup_cv, guOf_rt, guOf_cv, isTy_rt, isTy_cv, cv_eq, rt_eq, asg_rt, asg_cv, asg_var, asg_tup2, asg_tup3, isTy, guOf, isTup, intW, aug_add, aug_sub, augO_a, augO_s, lstAt_z, lstAt_s, lstAt_al, lstAt_e, lstAt_ar, Nat.sub_self, Nat.add_sub_cancel_left, Nat.reduceSubDiff, List.append_assoc, lstAt_set, lstAt_ne, toInts_ints, toInts_nil, toInts_cons, toBls_nil, toBls_cons, Option.map_some, List.set_cons_succ, List.set_cons_zero, List.getElem?_cons_zero, List.getElem?_cons_succ, List.getElem_cons_zero, List.getElem_cons_succ, List.length_cons, List.length_nil, List.length_set, List.length_append, List.length_map, List.nil_append, List.cons_append, List.append_nil, List.set_set, Nat.reduceAdd, Nat.reduceLeDiff, Nat.reduceLT, Nat.reduceSub, true_and, and_true, Bool.not_true, Bool.not_false, decide_true, decide_false, Int.reduceToNat, Int.reducePow, Int.reduceNeg, Int.cast_ofNat_Int, decide_eq_true_eq, Nat.zero_add, Nat.add_zero, Int.toNat_natCast, Int.reduceLT, Int.reduceLE, Int.reduceBNe, Int.reduceEq, Int.natCast_add, Nat.le_refl]
        exact ⟨_, rfl⟩
      · try simp -implicitDefEqProofs -dsimp (disch := first | omega | (simp only [List.length_set, List.length_append, List.length_cons, List.length_nil, List.length_map]; omega)) only [↓wp_ok, ↓wp_err, ↓wp_exc, ↓wp_bind, ↓wp_var, ↓wp_cst, ↓wp_bin, ↓wp_neg, ↓wp_cmp, ↓wp_and, ↓wp_or, ↓wp_not, ↓wp_ite, ↓wp_tup, ↓wp_lst, ↓wp_idx, ↓wp_slc, ↓wp_call, ↓wp_bi, ↓wp_bl, ↓wp_mt, ↓wp_mk, ↓wp_lr1, ↓wp_lr2, ↓wp_aa, ↓wp_tr2, ↓wp_maxD, ↓wp_srt, ↓wp_glc, ↓wp_rgN, ↓wp_srtD, ↓wp_lc2, ↓wp_i3, ↓wp_iv, ↓mt_pp, ↓mt_ppA, ↓wp_esn, ↓wp_esc, ↓wp_pn, ↓wp_pa, ↓wp_tv, ↓wp_ta, ↓wp_to, ↓wp_tn, ↓wp_lo, ↓wp_ld, ↓wp_lc, ↓wp_tsn, ↓wp_tsc, ↓wp_io, ↓wp_i1, ↓wp_i2, ↓wp_iz, ↓wp_ie, ↓wo_some, ↓wo_none, ↓br_t, ↓br_f, ↓wps_ok, ↓wps_st, ↓wb_add, ↓wb_sub, ↓wb_mulR, ↓wb_mulL, ↓wb_div, ↓wb_mod, ↓wb_pow, ↓wb_addT, ↓wb_mulT, ↓wb_addL, ↓wb_mulLs, ↓wn_neg, ↓wc_eq, ↓wc_ne, ↓wc_lt, ↓wc_le, ↓wc_gt, ↓wc_ge, ↓wc_in, ↓wc_nin, ↓wc_isN, ↓wc_notN, ↓item_int, ↓sl_tup, ↓sl_ref, ↓bi_len, ↓bi_abs, ↓bi_int, ↓bi_intb, ↓bi_isI, ↓bi_max, ↓bi_min, ↓bi_divmod, ↓bi_lcm, ↓bi_gcd, ↓bl_sum, ↓bl_tuple, ↓bl_list, ↓bl_len, ↓bl_max, ↓bl_min, ↓mt_app, ↓mt_ext, ↓mt_ix, ↓setIt_ref, ↓ws_n, ↓ws_c, ↓ws_expr, ↓ws_asg, ↓ws_set, ↓ws_aug, ↓ws_augS, ↓ws_bad, ↓ws_if, ↓ws_for, ↓ws_whl, ↓ws_ret, ↓ws_retN, ↓ws_brk, ↓ws_cont, ↓ws_pass, ↓sq_n, ↓sq_b, ↓sq_c, ↓sq_r, ↓sq_z, ↓fin_ret, ↓fin_next, ↓fin_rz, ↓isTy_cv, ↓isTy_rt, ↓tr_cv, ↓tr_rt, look_z, look_s, rgW_rg, isNon_non, isNon_bl, isNon_int, isNon_str, isNon_tup, isNon_fl, isNon_ref, eqW_int, eqW_bl, tr_non, tr_bl, tr_int, tr_tup, ixN_in, ixN_neg, mtW_ref, seqOf_ref, seqOf_tup, seqOf_fl, seqOf_rt, seqOf_cv, isNon_rt, isNon_cv, isTup_rt, isTup_cv, guOf_rt, guOf_cv, isTy_rt, isTy_cv, cv_eq, rt_eq, asg_rt, asg_cv, asg_var, asg_tup2, asg_tup3, isTy, guOf, isTup, intW, aug_add, aug_sub, augO_a, augO_s, lstAt_z, lstAt_s, lstAt_al, lstAt_e, lstAt_ar, Nat.sub_self, Nat.add_sub_cancel_left, Nat.reduceSubDiff, List.append_assoc, lstAt_set, lstAt_ne, toInts_ints, toInts_nil, toInts_cons, toBls_nil, toBls_cons, Option.map_some, List.set_cons_succ, List.set_cons_zero, List.getElem?_cons_zero, List.getElem?_cons_succ, List.getElem_cons_zero, List.getElem_cons_succ, List.length_cons, List.length_nil, List.length_set, List.length_append, List.length_map, List.nil_append, List.cons_append, List.append_nil, List.set_set, Nat.reduceAdd, Nat.reduceLeDiff, Nat.reduceLT, Nat.reduceSub, true_and, and_true, Bool.not_true, Bool.not_false, decide_true, decide_false, Int.reduceToNat, Int.reducePow, Int.reduceNeg, Int.cast_ofNat_Int, decide_eq_true_eq, Nat.zero_add, Nat.add_zero, Int.toNat_natCast, Int.reduceLT, Int.reduceLE, Int.reduceBNe, Int.reduceEq, Int.natCast_add, Nat.le_refl, b_law_3, pg5, p1, em5, p3, Int.natCast_one]
        rw [elapsed_ok C (hN c C), wp_ok]
        try simp -implicitDefEqProofs -dsimp (disch := first | omega | (simp only [List.length_set, List.length_append, List.length_cons, List.length_nil, List.length_map]; omega)) only [↓wp_ok, ↓wp_err, ↓wp_exc, ↓wp_bind, ↓wp_var, ↓wp_cst, ↓wp_bin, ↓wp_neg, ↓wp_cmp, ↓wp_and, ↓wp_or, ↓wp_not, ↓wp_ite, ↓wp_tup, ↓wp_lst, ↓wp_idx, ↓wp_slc, ↓wp_call, ↓wp_bi, ↓wp_bl, ↓wp_mt, ↓wp_mk, ↓wp_lr1, ↓wp_lr2, ↓wp_aa, ↓wp_tr2, ↓wp_maxD, ↓wp_srt, ↓wp_glc, ↓wp_rgN, ↓wp_srtD, ↓wp_lc2, ↓wp_i3, ↓wp_iv, ↓mt_pp, ↓mt_ppA, ↓wp_esn, ↓wp_esc, ↓wp_pn, ↓wp_pa, ↓wp_tv, ↓wp_ta, ↓wp_to, ↓wp_tn, ↓wp_lo, ↓wp_ld, ↓wp_lc, ↓wp_tsn, ↓wp_tsc, ↓wp_io, ↓wp_i1, ↓wp_i2, ↓wp_iz, ↓wp_ie, ↓wo_some, ↓wo_none, ↓br_t, ↓br_f, ↓wps_ok, ↓wps_st, ↓wb_add, ↓wb_sub, ↓wb_mulR, ↓wb_mulL, ↓wb_div, ↓wb_mod, ↓wb_pow, ↓wb_addT, ↓wb_mulT, ↓wb_addL, ↓wb_mulLs, ↓wn_neg, ↓wc_eq, ↓wc_ne, ↓wc_lt, ↓wc_le, ↓wc_gt, ↓wc_ge, ↓wc_in, ↓wc_nin, ↓wc_isN, ↓wc_notN, ↓item_int, ↓sl_tup, ↓sl_ref, ↓bi_len, ↓bi_abs, ↓bi_int, ↓bi_intb, ↓bi_isI, ↓bi_max, ↓bi_min, ↓bi_divmod, ↓bi_lcm, ↓bi_gcd, ↓bl_sum, ↓bl_tuple, ↓bl_list, ↓bl_len, ↓bl_max, ↓bl_min, ↓mt_app, ↓mt_ext, ↓mt_ix, ↓setIt_ref, ↓ws_n, ↓ws_c, ↓ws_expr, ↓ws_asg, ↓ws_set, ↓ws_aug, ↓ws_augS, ↓ws_bad, ↓ws_if, ↓ws_for, ↓ws_whl, ↓ws_ret, ↓ws_retN, ↓ws_brk, ↓ws_cont, ↓ws_pass, ↓sq_n, ↓sq_b, ↓sq_c, ↓sq_r, ↓sq_z, ↓fin_ret, ↓fin_next, ↓fin_rz, ↓isTy_cv, ↓isTy_rt, ↓tr_cv, ↓tr_rt, look_z, look_s, rgW_rg, isNon_non, isNon_bl, isNon_int, isNon_str, isNon_tup, isNon_fl, isNon_ref, eqW_int, eqW_bl, tr_non, tr_bl, tr_int, tr_tup, ixN_in, ixN_neg, mtW_ref, seqOf_ref, seqOf_tup, seqOf_fl, seqOf_rt, seqOf_cv, isNon_rt, isNon_cv, isTup_rt, isTup_cv, guOf_rt, guOf_cv, isTy_rt, isTy_cv, cv_eq, rt_eq, asg_rt, asg_cv, asg_var, asg_tup2, asg_tup3, isTy, guOf, isTup, intW, aug_add, aug_sub, augO_a, augO_s, lstAt_z, lstAt_s, lstAt_al, lstAt_e, lstAt_ar, Nat.sub_self, Nat.add_sub_cancel_left, Nat.reduceSubDiff, List.append_assoc, lstAt_set, lstAt_ne, toInts_ints, toInts_nil, toInts_cons, toBls_nil, toBls_cons, Option.map_some, List.set_cons_succ, List.set_cons_zero, List.getElem?_cons_zero, List.getElem?_cons_succ, List.getElem_cons_zero, List.getElem_cons_succ, List.length_cons, List.length_nil, List.length_set, List.length_append, List.length_map, List.nil_append, List.cons_append, List.append_nil, List.set_set, Nat.reduceAdd, Nat.reduceLeDiff, Nat.reduceLT, Nat.reduceSub, true_and, and_true, Bool.not_true, Bool.not_false, decide_true, decide_false, Int.reduceToNat, Int.reducePow, Int.reduceNeg, Int.cast_ofNat_Int, decide_eq_true_eq, Nat.zero_add, Nat.add_zero, Int.toNat_natCast, Int.reduceLT, Int.reduceLE, Int.reduceBNe, Int.reduceEq, Int.natCast_add, Nat.le_refl, em5, p3, hM' c]
        rw [same_ok 0 (k + 4) (.int _) trivial, wp_ok]
        try simp -implicitDefEqProofs -dsimp (disch := first | omega | (simp only [List.length_set, List.length_append, List.length_cons, List.length_nil, List.length_map]; omega)) only [↓wp_ok, ↓wp_err, ↓wp_exc, ↓wp_bind, ↓wp_var, ↓wp_cst, ↓wp_bin, ↓wp_neg, ↓wp_cmp, ↓wp_and, ↓wp_or, ↓wp_not, ↓wp_ite, ↓wp_tup, ↓wp_lst, ↓wp_idx, ↓wp_slc, ↓wp_call, ↓wp_bi, ↓wp_bl, ↓wp_mt, ↓wp_mk, ↓wp_lr1, ↓wp_lr2, ↓wp_aa, ↓wp_tr2, ↓wp_maxD, ↓wp_srt, ↓wp_glc, ↓wp_rgN, ↓wp_srtD, ↓wp_lc2, ↓wp_i3, ↓wp_iv, ↓mt_pp, ↓mt_ppA, ↓wp_esn, ↓wp_esc, ↓wp_pn, ↓wp_pa, ↓wp_tv, ↓wp_ta, ↓wp_to, ↓wp_tn, ↓wp_lo, ↓wp_ld, ↓wp_lc, ↓wp_tsn, ↓wp_tsc, ↓wp_io, ↓wp_i1, ↓wp_i2, ↓wp_iz, ↓wp_ie, ↓wo_some, ↓wo_none, ↓br_t, ↓br_f, ↓wps_ok, ↓wps_st, ↓wb_add, ↓wb_sub, ↓wb_mulR, ↓wb_mulL, ↓wb_div, ↓wb_mod, ↓wb_pow, ↓wb_addT, ↓wb_mulT, ↓wb_addL, ↓wb_mulLs, ↓wn_neg, ↓wc_eq, ↓wc_ne, ↓wc_lt, ↓wc_le, ↓wc_gt, ↓wc_ge, ↓wc_in, ↓wc_nin, ↓wc_isN, ↓wc_notN, ↓item_int, ↓sl_tup, ↓sl_ref, ↓bi_len, ↓bi_abs, ↓bi_int, ↓bi_intb, ↓bi_isI, ↓bi_max, ↓bi_min, ↓bi_divmod, ↓bi_lcm, ↓bi_gcd, ↓bl_sum, ↓bl_tuple, ↓bl_list, ↓bl_len, ↓bl_max, ↓bl_min, ↓mt_app, ↓mt_ext, ↓mt_ix, ↓setIt_ref, ↓ws_n, ↓ws_c, ↓ws_expr, ↓ws_asg, ↓ws_set, ↓ws_aug, ↓ws_augS, ↓ws_bad, ↓ws_if, ↓ws_for, ↓ws_whl, ↓ws_ret, ↓ws_retN, ↓ws_brk, ↓ws_cont, ↓ws_pass, ↓sq_n, ↓sq_b, ↓sq_c, ↓sq_r, ↓sq_z, ↓fin_ret, ↓fin_next, ↓fin_rz, ↓isTy_cv, ↓isTy_rt, ↓tr_cv, ↓tr_rt, look_z, look_s, rgW_rg, isNon_non, isNon_bl, isNon_int, isNon_str, isNon_tup, isNon_fl, isNon_ref, eqW_int, eqW_bl, tr_non, tr_bl, tr_int, tr_tup, ixN_in, ixN_neg, mtW_ref, seqOf_ref, seqOf_tup, seqOf_fl, seqOf_rt, seqOf_cv, isNon_rt, isNon_cv, isTup_rt, isTup_cv, guOf_rt, guOf_cv, isTy_rt, isTy_cv, cv_eq, rt_eq, asg_rt, asg_cv, asg_var, asg_tup2, asg_tup3, isTy, guOf, isTup, intW, aug_add, aug_sub, augO_a, augO_s, lstAt_z, lstAt_s, lstAt_al, lstAt_e, lstAt_ar, Nat.sub_self, Nat.add_sub_cancel_left, Nat.reduceSubDiff, List.append_assoc, lstAt_set, lstAt_ne, toInts_ints, toInts_nil, toInts_cons, toBls_nil, toBls_cons, Option.map_some, List.set_cons_succ, List.set_cons_zero, List.getElem?_cons_zero, List.getElem?_cons_succ, List.getElem_cons_zero, List.getElem_cons_succ, List.length_cons, List.length_nil, List.length_set, List.length_append, List.length_map, List.nil_append, List.cons_append, List.append_nil, List.set_set, Nat.reduceAdd, Nat.reduceLeDiff, Nat.reduceLT, Nat.reduceSub, true_and, and_true, Bool.not_true, Bool.not_false, decide_true, decide_false, Int.reduceToNat, Int.reducePow, Int.reduceNeg, Int.cast_ofNat_Int, decide_eq_true_eq, Nat.zero_add, Nat.add_zero, Int.toNat_natCast, Int.reduceLT, Int.reduceLE, Int.reduceBNe, Int.reduceEq, Int.natCast_add, Nat.le_refl]
        exact ⟨_, rfl⟩
    · rintro ρ g'' ⟨rfl, x10', rfl⟩
      exact ⟨rfl, _, _, rfl⟩
  · rintro ρ g' ⟨rfl, x9, x10, rfl⟩
    try simp -implicitDefEqProofs -dsimp (disch := first | omega | (simp only [List.length_set, List.length_append, List.length_cons, List.length_nil, List.length_map]; omega)) only [↓wp_ok, ↓wp_err, ↓wp_exc, ↓wp_bind, ↓wp_var, ↓wp_cst, ↓wp_bin, ↓wp_neg, ↓wp_cmp, ↓wp_and, ↓wp_or, ↓wp_not, ↓wp_ite, ↓wp_tup, ↓wp_lst, ↓wp_idx, ↓wp_slc, ↓wp_call, ↓wp_bi, ↓wp_bl, ↓wp_mt, ↓wp_mk, ↓wp_lr1, ↓wp_lr2, ↓wp_aa, ↓wp_tr2, ↓wp_maxD, ↓wp_srt, ↓wp_glc, ↓wp_rgN, ↓wp_srtD, ↓wp_lc2, ↓wp_i3, ↓wp_iv, ↓mt_pp, ↓mt_ppA, ↓wp_esn, ↓wp_esc, ↓wp_pn, ↓wp_pa, ↓wp_tv, ↓wp_ta, ↓wp_to, ↓wp_tn, ↓wp_lo, ↓wp_ld, ↓wp_lc, ↓wp_tsn, ↓wp_tsc, ↓wp_io, ↓wp_i1, ↓wp_i2, ↓wp_iz, ↓wp_ie, ↓wo_some, ↓wo_none, ↓br_t, ↓br_f, ↓wps_ok, ↓wps_st, ↓wb_add, ↓wb_sub, ↓wb_mulR, ↓wb_mulL, ↓wb_div, ↓wb_mod, ↓wb_pow, ↓wb_addT, ↓wb_mulT, ↓wb_addL, ↓wb_mulLs, ↓wn_neg, ↓wc_eq, ↓wc_ne, ↓wc_lt, ↓wc_le, ↓wc_gt, ↓wc_ge, ↓wc_in, ↓wc_nin, ↓wc_isN, ↓wc_notN, ↓item_int, ↓sl_tup, ↓sl_ref, ↓bi_len, ↓bi_abs, ↓bi_int, ↓bi_intb, ↓bi_isI, ↓bi_max, ↓bi_min, ↓bi_divmod, ↓bi_lcm, ↓bi_gcd, ↓bl_sum, ↓bl_tuple, ↓bl_list, ↓bl_len, ↓bl_max, ↓bl_min, ↓mt_app, ↓mt_ext, ↓mt_ix, ↓setIt_ref, ↓ws_n, ↓ws_c, ↓ws_expr, ↓ws_asg, ↓ws_set, ↓ws_aug, ↓ws_augS, ↓ws_bad, ↓ws_if, ↓ws_for, ↓ws_whl, ↓ws_ret, ↓ws_retN, ↓ws_brk, ↓ws_cont, ↓ws_pass, ↓sq_n, ↓sq_b, ↓sq_c, ↓sq_r, ↓sq_z, ↓fin_ret, ↓fin_next, ↓fin_rz, ↓isTy_cv, ↓isTy_rt, ↓tr_cv, ↓tr_rt, look_z, look_s, rgW_rg, isNon_non, isNon_bl, isNon_int, isNon_str, isNon_tup, isNon_fl, isNon_ref, eqW_int, eqW_bl, tr_non, tr_bl, tr_int, tr_tup, ixN_in, ixN_neg, mtW_ref, seqOf_ref, seqOf_tup, seqOf_fl, seqOf_rt, seqOf_cv, isNon_rt, isNon_cv, isTup_rt, isTup_cv, guOf_rt, guOf_cv, isTy_rt, isTy_cv, cv_eq, rt_eq, asg_rt, asg_cv, asg_var, asg_tup2, asg_tup3, isTy, guOf, isTup, intW, aug_add, aug_sub, augO_a, augO_s, lstAt_z, lstAt_s, lstAt_al, lstAt_e, lstAt_ar, Nat.sub_self, Nat.add_sub_cancel_left, Nat.reduceSubDiff, List.append_assoc, lstAt_set, lstAt_ne, toInts_ints, toInts_nil, toInts_cons, toBls_nil, toBls_cons, Option.map_some, List.set_cons_succ, List.set_cons_zero, List.getElem?_cons_zero, List.getElem?_cons_succ, List.getElem_cons_zero, List.getElem_cons_succ, List.length_cons, List.length_nil, List.length_set, List.length_append, List.length_map, List.nil_append, List.cons_append, List.append_nil, List.set_set, Nat.reduceAdd, Nat.reduceLeDiff, Nat.reduceLT, Nat.reduceSub, true_and, and_true, Bool.not_true, Bool.not_false, decide_true, decide_false, Int.reduceToNat, Int.reducePow, Int.reduceNeg, Int.cast_ofNat_Int, decide_eq_true_eq, Nat.zero_add, Nat.add_zero, Int.toNat_natCast, Int.reduceLT, Int.reduceLE, Int.reduceBNe, Int.reduceEq, Int.natCast_add, Nat.le_refl]
    refine wps_for (fun n : Nat => W.int n) [0, 1] (fun _ ρ g'' => Fr 0 1 g' g'' ∧ g''.length = g'.length ∧ ∃ x10, ρ = [ρ0, some (.ref 1), some (.ref 2), ρ3, some (.int e), some (.int hr), some (.ref A), some (.ref (A + 1)), some (.int f), x9, x10, ρ11]) (fun _ _ _ _ => guOk_nil) ?_ ⟨Fr.refl F5.tp, rfl, _, rfl⟩ ?_
    · rintro pre2 j suf2 ρ g'' e2 ⟨F6, L6, x10', rfl⟩
      have hj : j < 2 := by
        have : j ∈ [0, 1] := by rw [e2]; simp
        simp at this
        omega
      obtain ⟨c, C, p1, p2, p3⟩ := pick j hj
      have pg6 : lstAt g'' 2 = some [cal c0, cal c1] := by rw [F6.lst (lstAt_lt pg5) (by omega), pg5]
      have eg6 : lstAt g'' A = some [oW (D c0), oW (D c1)] := by rw [F6.lst (lstAt_lt eg5) (by omega), eg5]
      try simp -implicitDefEqProofs -dsimp (disch := first | omega | (simp only [List.length_set, List.length_append, List.length_cons, List.length_nil, List.length_map]; omega)) only [↓wp_ok, ↓wp_err, ↓wp_exc, ↓wp_bind, ↓wp_var, ↓wp_cst, ↓wp_bin, ↓wp_neg, ↓wp_cmp, ↓wp_and, ↓wp_or, ↓wp_not, ↓wp_ite, ↓wp_tup, ↓wp_lst, ↓wp_idx, ↓wp_slc, ↓wp_call, ↓wp_bi, ↓wp_bl, ↓wp_mt, ↓wp_mk, ↓wp_lr1, ↓wp_lr2, ↓wp_aa, ↓wp_tr2, ↓wp_maxD, ↓wp_srt, ↓wp_glc, ↓wp_rgN, ↓wp_srtD, ↓wp_lc2, ↓wp_i3, ↓wp_iv, ↓mt_pp, ↓mt_ppA, ↓wp_esn, ↓wp_esc, ↓wp_pn, ↓wp_pa, ↓wp_tv, ↓wp_ta, ↓wp_to, ↓wp_tn, ↓wp_lo, ↓wp_ld, ↓wp_lc, ↓wp_tsn, ↓wp_tsc, ↓wp_io, ↓wp_i1, ↓wp_i2, ↓wp_iz, ↓wp_ie, ↓wo_some, ↓wo_none, ↓br_t, ↓br_f, ↓wps_ok, ↓wps_st, ↓wb_add, ↓wb_sub, ↓wb_mulR, ↓wb_mulL, ↓wb_div, ↓wb_mod, ↓wb_pow, ↓wb_addT, ↓wb_mulT, ↓wb_addL, ↓wb_mulLs, ↓wn_neg, ↓wc_eq, ↓wc_ne, ↓wc_lt, ↓wc_le, ↓wc_gt, ↓wc_ge, ↓wc_in, ↓wc_nin, ↓wc_isN, ↓wc_notN, ↓item_int, ↓sl_tup, ↓sl_ref, ↓bi_len, ↓bi_abs, ↓bi_int, ↓bi_intb, ↓bi_isI, ↓bi_max, ↓bi_min, ↓bi_divmod, ↓bi_lcm, ↓bi_gcd, ↓bl_sum, ↓bl_tuple, ↓bl_list, ↓bl_len, ↓bl_max, ↓bl_min, ↓mt_app, ↓mt_ext, ↓mt_ix, ↓setIt_ref, ↓ws_n, ↓ws_c, ↓ws_expr, ↓ws_asg, ↓ws_set, ↓ws_aug, ↓ws_augS, ↓ws_bad, ↓ws_if, ↓ws_for, ↓ws_whl, ↓ws_ret, ↓ws_retN, ↓ws_brk, ↓ws_cont, ↓ws_pass, ↓sq_n, ↓sq_b, ↓sq_c, ↓sq_r, ↓sq_z, ↓fin_ret, ↓fin_next, ↓fin_rz, ↓isTy_cv, ↓isTy_rt, ↓tr_cv, ↓tr_rt, look_z, look_s, rgW_rg, isNon_non, isNon_bl, isNon_int, isNon_str, isNon_tup, isNon_fl, isNon_ref, eqW_int, eqW_bl, tr_non, tr_bl, tr_int, tr_tup, ixN_in, ixN_neg, mtW_ref, seqOf_ref, seqOf_tup, seqOf_fl, seqOf_rt, seqOf_cv, isNon_rt, isNon_cv, isTup_rt, isTup_cv, guOf_rt, guOf_cv, isTy_rt, isTy_cv, cv_eq, rt_eq, asg_rt, asg_cv, asg_var, asg_tup2, asg_tup3, isTy, guOf, isTup, intW, aug_add, aug_sub, augO_a, augO_s, lstAt_z, lstAt_s, lstAt_al, lstAt_e, lstAt_ar, Nat.sub_self, Nat.add_sub_cancel_left, Nat.reduceSubDiff, List.append_assoc, lstAt_set, lstAt_ne, toInts_ints, toInts_nil, toInts_cons, toBls_nil, toBls_cons, Option.map_some, List.set_cons_succ, List.set_cons_zero, List.getElem?_cons_zero, List.getElem?_cons_succ, List.getElem_cons_zero, List.getElem_cons_succ, List.length_cons, List.length_nil, List.length_set, List.length_append, List.length_map, List.nil_append, List.cons_append, List.append_nil, List.set_set, Nat.reduceAdd, Nat.reduceLeDiff, Nat.reduceLT, Nat.reduceSub, true_and, and_true, Bool.not_true, Bool.not_false, decide_true, decide_false, Int.reduceToNat, Int.reducePow, Int.reduceNeg, Int.cast_ofNat_Int, decide_eq_true_eq, Nat.zero_add, Nat.add_zero, Int.toNat_natCast, Int.reduceLT, Int.reduceLE, Int.reduceBNe, Int.reduceEq, Int.natCast_add, Nat.le_refl, b_law_5, pg6, p1, eg6, p2]
      refine by_wp F6.tp C (hD c C) fun g7 F7 L7 => ?_
      try simp -implicitDefEqProofs -dsimp (disch := first | omega | (simp only [List.length_set, List.length_append, List.length_cons, List.length_nil, List.length_map]; omega)) only [↓wp_ok, ↓wp_err, ↓wp_exc, ↓wp_bind, ↓wp_var, ↓wp_cst, ↓wp_bin, ↓wp_neg, ↓wp_cmp, ↓wp_and, ↓wp_or, ↓wp_not, ↓wp_ite, ↓wp_tup, ↓wp_lst, ↓wp_idx, ↓wp_slc, ↓wp_call, ↓wp_bi, ↓wp_bl, ↓wp_mt, ↓wp_mk, ↓wp_lr1, ↓wp_lr2, ↓wp_aa, ↓wp_tr2, ↓wp_maxD, ↓wp_srt, ↓wp_glc, ↓wp_rgN, ↓wp_srtD, ↓wp_lc2, ↓wp_i3, ↓wp_iv, ↓mt_pp, ↓mt_ppA, ↓wp_esn, ↓wp_esc, ↓wp_pn, ↓wp_pa, ↓wp_tv, ↓wp_ta, ↓wp_to, ↓wp_tn, ↓wp_lo, ↓wp_ld, ↓wp_lc, ↓wp_tsn, ↓wp_tsc, ↓wp_io, ↓wp_i1, ↓wp_i2, ↓wp_iz, ↓wp_ie, ↓wo_some, ↓wo_none, ↓br_t, ↓br_f, ↓wps_ok, ↓wps_st, ↓wb_add, ↓wb_sub, ↓wb_mulR, ↓wb_mulL, ↓wb_div, ↓wb_mod, ↓wb_pow, ↓wb_addT, ↓wb_mulT, ↓wb_addL, ↓wb_mulLs, ↓wn_neg, ↓wc_eq, ↓wc_ne, ↓wc_lt, ↓wc_le, ↓wc_gt, ↓wc_ge, ↓wc_in, ↓wc_nin, ↓wc_isN, ↓wc_notN, ↓item_int, ↓sl_tup, ↓sl_ref, ↓bi_len, ↓bi_abs, ↓bi_int, ↓bi_intb, ↓bi_isI, ↓bi_max, ↓bi_min, ↓bi_divmod, ↓bi_lcm, ↓bi_gcd, ↓bl_sum, ↓bl_tuple, ↓bl_list, ↓bl_len, ↓bl_max, ↓bl_min, ↓mt_app, ↓mt_ext, ↓mt_ix, ↓setIt_ref, ↓ws_n, ↓ws_c, ↓ws_expr, ↓ws_asg, ↓ws_set, ↓ws_aug, ↓ws_augS, ↓ws_bad, ↓ws_if, ↓ws_for, ↓ws_whl, ↓ws_ret, ↓ws_retN, ↓ws_brk, ↓ws_cont, ↓ws_pass, ↓sq_n, ↓sq_b, ↓sq_c, ↓sq_r, ↓sq_z, ↓fin_ret, ↓fin_next, ↓fin_rz, ↓isTy_cv, ↓isTy_rt, ↓tr_cv, ↓tr_rt, look_z, look_s, rgW_rg, isNon_non, isNon_bl, isNon_int, isNon_str, isNon_tup, isNon_fl, isNon_ref, eqW_int, eqW_bl, tr_non, tr_bl, tr_int, tr_tup, ixN_in, ixN_neg, mtW_ref, seqOf_ref, seqOf_tup, seqOf_fl, seqOf_rt, seqOf_cv, isNon_rt, isNon_cv, isTup_rt, isTup_cv, guOf_rt, guOf_cv, isTy_rt, isTy_cv, cv_eq, rt_eq, asg_rt, asg_cv, asg_var, asg_tup2, asg_tup3, isTy, guOf, isTup, intW, aug_add, aug_sub, augO_a, augO_s, lstAt_z, lstAt_s, lstAt_al, lstAt_e, lstAt_ar, Nat.sub_self, Nat.add_sub_cancel_left, Nat.reduceSubDiff, List.append_assoc, lstAt_set, lstAt_ne, toInts_ints, toInts_nil, toInts_cons, toBls_nil, toBls_cons, Option.map_some, List.set_cons_succ, List.set_cons_zero, List.getElem?_cons_zero, List.getElem?_cons_succ, List.getElem_cons_zero, List.getElem_cons_succ, List.length_cons, List.length_nil, List.length_set, List.length_append, List.length_map, List.nil_append, List.cons_append, List.append_nil, List.set_set, Nat.reduceAdd, Nat.reduceLeDiff, Nat.reduceLT, Nat.reduceSub, true_and, and_true, Bool.not_true, Bool.not_false, decide_true, decide_false, Int.reduceToNat, Int.reducePow, Int.reduceNeg, Int.cast_ofNat_Int, decide_eq_true_eq, Nat.zero_add, Nat.add_zero, Int.toNat_natCast, Int.reduceLT, Int.reduceLE, Int.reduceBNe, Int.reduceEq, Int.natCast_add, Nat.le_refl]
      exact ⟨F6.trans F7, by omega, _, rfl⟩
    · rintro ρ g'' ⟨F6, L6, x10', rfl⟩
      exact K _ _ _ _ _ _ _ _ _ (F5'.trans F6)
theorem law_true (ns : List Int) (hn : ns.length ≤ 63) : ∃ h', PhiN (rs.map (·.d)) 61 17 [.fl (ns.map .int)] [] = .ok (.bl true) h' := by
  refine wp_law ?_
  rw [ds_eq]
  refine go_law ?_
  unfold s_law
  try simp -implicitDefEqProofs -dsimp (disch := first | omega | (simp only [List.length_set, List.length_append, List.length_cons, List.length_nil, List.length_map]; omega)) only [↓wp_ok, ↓wp_err, ↓wp_exc, ↓wp_bind, ↓wp_var, ↓wp_cst, ↓wp_bin, ↓wp_neg, ↓wp_cmp, ↓wp_and, ↓wp_or, ↓wp_not, ↓wp_ite, ↓wp_tup, ↓wp_lst, ↓wp_idx, ↓wp_slc, ↓wp_call, ↓wp_bi, ↓wp_bl, ↓wp_mt, ↓wp_mk, ↓wp_lr1, ↓wp_lr2, ↓wp_aa, ↓wp_tr2, ↓wp_maxD, ↓wp_srt, ↓wp_glc, ↓wp_rgN, ↓wp_srtD, ↓wp_lc2, ↓wp_i3, ↓wp_iv, ↓mt_pp, ↓mt_ppA, ↓wp_esn, ↓wp_esc, ↓wp_pn, ↓wp_pa, ↓wp_tv, ↓wp_ta, ↓wp_to, ↓wp_tn, ↓wp_lo, ↓wp_ld, ↓wp_lc, ↓wp_tsn, ↓wp_tsc, ↓wp_io, ↓wp_i1, ↓wp_i2, ↓wp_iz, ↓wp_ie, ↓wo_some, ↓wo_none, ↓br_t, ↓br_f, ↓wps_ok, ↓wps_st, ↓wb_add, ↓wb_sub, ↓wb_mulR, ↓wb_mulL, ↓wb_div, ↓wb_mod, ↓wb_pow, ↓wb_addT, ↓wb_mulT, ↓wb_addL, ↓wb_mulLs, ↓wn_neg, ↓wc_eq, ↓wc_ne, ↓wc_lt, ↓wc_le, ↓wc_gt, ↓wc_ge, ↓wc_in, ↓wc_nin, ↓wc_isN, ↓wc_notN, ↓item_int, ↓sl_tup, ↓sl_ref, ↓bi_len, ↓bi_abs, ↓bi_int, ↓bi_intb, ↓bi_isI, ↓bi_max, ↓bi_min, ↓bi_divmod, ↓bi_lcm, ↓bi_gcd, ↓bl_sum, ↓bl_tuple, ↓bl_list, ↓bl_len, ↓bl_max, ↓bl_min, ↓mt_app, ↓mt_ext, ↓mt_ix, ↓setIt_ref, ↓ws_n, ↓ws_c, ↓ws_expr, ↓ws_asg, ↓ws_set, ↓ws_aug, ↓ws_augS, ↓ws_bad, ↓ws_if, ↓ws_for, ↓ws_whl, ↓ws_ret, ↓ws_retN, ↓ws_brk, ↓ws_cont, ↓ws_pass, ↓sq_n, ↓sq_b, ↓sq_c, ↓sq_r, ↓sq_z, ↓fin_ret, ↓fin_next, ↓fin_rz, ↓isTy_cv, ↓isTy_rt, ↓tr_cv, ↓tr_rt, look_z, look_s, rgW_rg, isNon_non, isNon_bl, isNon_int, isNon_str, isNon_tup, isNon_fl, isNon_ref, eqW_int, eqW_bl, tr_non, tr_bl, tr_int, tr_tup, ixN_in, ixN_neg, mtW_ref, seqOf_ref, seqOf_tup, seqOf_fl, seqOf_rt, seqOf_cv, isNon_rt, isNon_cv, isTup_rt, isTup_cv, guOf_rt, guOf_cv, isTy_rt, isTy_cv, cv_eq, rt_eq, asg_rt, asg_cv, asg_var, asg_tup2, asg_tup3, isTy, guOf, isTup, intW, aug_add, aug_sub, augO_a, augO_s, lstAt_z, lstAt_s, lstAt_al, lstAt_e, lstAt_ar, Nat.sub_self, Nat.add_sub_cancel_left, Nat.reduceSubDiff, List.append_assoc, lstAt_set, lstAt_ne, toInts_ints, toInts_nil, toInts_cons, toBls_nil, toBls_cons, Option.map_some, List.set_cons_succ, List.set_cons_zero, List.getElem?_cons_zero, List.getElem?_cons_succ, List.getElem_cons_zero, List.getElem_cons_succ, List.length_cons, List.length_nil, List.length_set, List.length_append, List.length_map, List.nil_append, List.cons_append, List.append_nil, List.set_set, Nat.reduceAdd, Nat.reduceLeDiff, Nat.reduceLT, Nat.reduceSub, true_and, and_true, Bool.not_true, Bool.not_false, decide_true, decide_false, Int.reduceToNat, Int.reducePow, Int.reduceNeg, Int.cast_ofNat_Int, decide_eq_true_eq, Nat.zero_add, Nat.add_zero, Int.toNat_natCast, Int.reduceLT, Int.reduceLE, Int.reduceBNe, Int.reduceEq, Int.natCast_add, Nat.le_refl]
  refine tape_wp fun c => ?_
  have T : Tp 0 1 [.lst (ns.map W.int), .lst [.ref 0, .int 0, .int 0, .int c]] := ⟨by omega, ⟨ns, rfl⟩, 0, 0, c, by omega, rfl⟩
  try simp -implicitDefEqProofs -dsimp (disch := first | omega | (simp only [List.length_set, List.length_append, List.length_cons, List.length_nil, List.length_map]; omega)) only [↓wp_ok, ↓wp_err, ↓wp_exc, ↓wp_bind, ↓wp_var, ↓wp_cst, ↓wp_bin, ↓wp_neg, ↓wp_cmp, ↓wp_and, ↓wp_or, ↓wp_not, ↓wp_ite, ↓wp_tup, ↓wp_lst, ↓wp_idx, ↓wp_slc, ↓wp_call, ↓wp_bi, ↓wp_bl, ↓wp_mt, ↓wp_mk, ↓wp_lr1, ↓wp_lr2, ↓wp_aa, ↓wp_tr2, ↓wp_maxD, ↓wp_srt, ↓wp_glc, ↓wp_rgN, ↓wp_srtD, ↓wp_lc2, ↓wp_i3, ↓wp_iv, ↓mt_pp, ↓mt_ppA, ↓wp_esn, ↓wp_esc, ↓wp_pn, ↓wp_pa, ↓wp_tv, ↓wp_ta, ↓wp_to, ↓wp_tn, ↓wp_lo, ↓wp_ld, ↓wp_lc, ↓wp_tsn, ↓wp_tsc, ↓wp_io, ↓wp_i1, ↓wp_i2, ↓wp_iz, ↓wp_ie, ↓wo_some, ↓wo_none, ↓br_t, ↓br_f, ↓wps_ok, ↓wps_st, ↓wb_add, ↓wb_sub, ↓wb_mulR, ↓wb_mulL, ↓wb_div, ↓wb_mod, ↓wb_pow, ↓wb_addT, ↓wb_mulT, ↓wb_addL, ↓wb_mulLs, ↓wn_neg, ↓wc_eq, ↓wc_ne, ↓wc_lt, ↓wc_le, ↓wc_gt, ↓wc_ge, ↓wc_in, ↓wc_nin, ↓wc_isN, ↓wc_notN, ↓item_int, ↓sl_tup, ↓sl_ref, ↓bi_len, ↓bi_abs, ↓bi_int, ↓bi_intb, ↓bi_isI, ↓bi_max, ↓bi_min, ↓bi_divmod, ↓bi_lcm, ↓bi_gcd, ↓bl_sum, ↓bl_tuple, ↓bl_list, ↓bl_len, ↓bl_max, ↓bl_min, ↓mt_app, ↓mt_ext, ↓mt_ix, ↓setIt_ref, ↓ws_n, ↓ws_c, ↓ws_expr, ↓ws_asg, ↓ws_set, ↓ws_aug, ↓ws_augS, ↓ws_bad, ↓ws_if, ↓ws_for, ↓ws_whl, ↓ws_ret, ↓ws_retN, ↓ws_brk, ↓ws_cont, ↓ws_pass, ↓sq_n, ↓sq_b, ↓sq_c, ↓sq_r, ↓sq_z, ↓fin_ret, ↓fin_next, ↓fin_rz, ↓isTy_cv, ↓isTy_rt, ↓tr_cv, ↓tr_rt, look_z, look_s, rgW_rg, isNon_non, isNon_bl, isNon_int, isNon_str, isNon_tup, isNon_fl, isNon_ref, eqW_int, eqW_bl, tr_non, tr_bl, tr_int, tr_tup, ixN_in, ixN_neg, mtW_ref, seqOf_ref, seqOf_tup, seqOf_fl, seqOf_rt, seqOf_cv, isNon_rt, isNon_cv, isTup_rt, isTup_cv, guOf_rt, guOf_cv, isTy_rt, isTy_cv, cv_eq, rt_eq, asg_rt, asg_cv, asg_var, asg_tup2, asg_tup3, isTy, guOf, isTup, intW, aug_add, aug_sub, augO_a, augO_s, lstAt_z, lstAt_s, lstAt_al, lstAt_e, lstAt_ar, Nat.sub_self, Nat.add_sub_cancel_left, Nat.reduceSubDiff, List.append_assoc, lstAt_set, lstAt_ne, toInts_ints, toInts_nil, toInts_cons, toBls_nil, toBls_cons, Option.map_some, List.set_cons_succ, List.set_cons_zero, List.getElem?_cons_zero, List.getElem?_cons_succ, List.getElem_cons_zero, List.getElem_cons_succ, List.length_cons, List.length_nil, List.length_set, List.length_append, List.length_map, List.nil_append, List.cons_append, List.append_nil, List.set_set, Nat.reduceAdd, Nat.reduceLeDiff, Nat.reduceLT, Nat.reduceSub, true_and, and_true, Bool.not_true, Bool.not_false, decide_true, decide_false, Int.reduceToNat, Int.reducePow, Int.reduceNeg, Int.cast_ofNat_Int, decide_eq_true_eq, Nat.zero_add, Nat.add_zero, Int.toNat_natCast, Int.reduceLT, Int.reduceLE, Int.reduceBNe, Int.reduceEq, Int.natCast_add, Nat.le_refl]
  refine cal_wp T (by omega) fun hd1 tn1 g1 l1 x1 s1 F1 L1 => ?_
  try simp -implicitDefEqProofs -dsimp (disch := first | omega | (simp only [List.length_set, List.length_append, List.length_cons, List.length_nil, List.length_map]; omega)) only [↓wp_ok, ↓wp_err, ↓wp_exc, ↓wp_bind, ↓wp_var, ↓wp_cst, ↓wp_bin, ↓wp_neg, ↓wp_cmp, ↓wp_and, ↓wp_or, ↓wp_not, ↓wp_ite, ↓wp_tup, ↓wp_lst, ↓wp_idx, ↓wp_slc, ↓wp_call, ↓wp_bi, ↓wp_bl, ↓wp_mt, ↓wp_mk, ↓wp_lr1, ↓wp_lr2, ↓wp_aa, ↓wp_tr2, ↓wp_maxD, ↓wp_srt, ↓wp_glc, ↓wp_rgN, ↓wp_srtD, ↓wp_lc2, ↓wp_i3, ↓wp_iv, ↓mt_pp, ↓mt_ppA, ↓wp_esn, ↓wp_esc, ↓wp_pn, ↓wp_pa, ↓wp_tv, ↓wp_ta, ↓wp_to, ↓wp_tn, ↓wp_lo, ↓wp_ld, ↓wp_lc, ↓wp_tsn, ↓wp_tsc, ↓wp_io, ↓wp_i1, ↓wp_i2, ↓wp_iz, ↓wp_ie, ↓wo_some, ↓wo_none, ↓br_t, ↓br_f, ↓wps_ok, ↓wps_st, ↓wb_add, ↓wb_sub, ↓wb_mulR, ↓wb_mulL, ↓wb_div, ↓wb_mod, ↓wb_pow, ↓wb_addT, ↓wb_mulT, ↓wb_addL, ↓wb_mulLs, ↓wn_neg, ↓wc_eq, ↓wc_ne, ↓wc_lt, ↓wc_le, ↓wc_gt, ↓wc_ge, ↓wc_in, ↓wc_nin, ↓wc_isN, ↓wc_notN, ↓item_int, ↓sl_tup, ↓sl_ref, ↓bi_len, ↓bi_abs, ↓bi_int, ↓bi_intb, ↓bi_isI, ↓bi_max, ↓bi_min, ↓bi_divmod, ↓bi_lcm, ↓bi_gcd, ↓bl_sum, ↓bl_tuple, ↓bl_list, ↓bl_len, ↓bl_max, ↓bl_min, ↓mt_app, ↓mt_ext, ↓mt_ix, ↓setIt_ref, ↓ws_n, ↓ws_c, ↓ws_expr, ↓ws_asg, ↓ws_set, ↓ws_aug, ↓ws_augS, ↓ws_bad, ↓ws_if, ↓ws_for, ↓ws_whl, ↓ws_ret, ↓ws_retN, ↓ws_brk, ↓ws_cont, ↓ws_pass, ↓sq_n, ↓sq_b, ↓sq_c, ↓sq_r, ↓sq_z, ↓fin_ret, ↓fin_next, ↓fin_rz, ↓isTy_cv, ↓isTy_rt, ↓tr_cv, ↓tr_rt, look_z, look_s, rgW_rg, isNon_non, isNon_bl, isNon_int, isNon_str, isNon_tup, isNon_fl, isNon_ref, eqW_int, eqW_bl, tr_non, tr_bl, tr_int, tr_tup, ixN_in, ixN_neg, mtW_ref, seqOf_ref, seqOf_tup, seqOf_fl, seqOf_rt, seqOf_cv, isNon_rt, isNon_cv, isTup_rt, isTup_cv, guOf_rt, guOf_cv, isTy_rt, isTy_cv, cv_eq, rt_eq, asg_rt, asg_cv, asg_var, asg_tup2, asg_tup3, isTy, guOf, isTup, intW, aug_add, aug_sub, augO_a, augO_s, lstAt_z, lstAt_s, lstAt_al, lstAt_e, lstAt_ar, Nat.sub_self, Nat.add_sub_cancel_left, Nat.reduceSubDiff, List.append_assoc, lstAt_set, lstAt_ne, toInts_ints, toInts_nil, toInts_cons, toBls_nil, toBls_cons, Option.map_some, List.set_cons_succ, List.set_cons_zero, List.getElem?_cons_zero, List.getElem?_cons_succ, List.getElem_cons_zero, List.getElem_cons_succ, List.length_cons, List.length_nil, List.length_set, List.length_append, List.length_map, List.nil_append, List.cons_append, List.append_nil, List.set_set, Nat.reduceAdd, Nat.reduceLeDiff, Nat.reduceLT, Nat.reduceSub, true_and, and_true, Bool.not_true, Bool.not_false, decide_true, decide_false, Int.reduceToNat, Int.reducePow, Int.reduceNeg, Int.cast_ofNat_Int, decide_eq_true_eq, Nat.zero_add, Nat.add_zero, Int.toNat_natCast, Int.reduceLT, Int.reduceLE, Int.reduceBNe, Int.reduceEq, Int.natCast_add, Nat.le_refl]
  refine cal_wp F1.tp (by omega) fun hd2 tn2 g2 l2 x2 s2 F2 L2 => ?_
  have L2' : g2.length = 2 := by rw [L2, L1]; rfl
  try simp -implicitDefEqProofs -dsimp (disch := first | omega | (simp only [List.length_set, List.length_append, List.length_cons, List.length_nil, List.length_map]; omega)) only [↓wp_ok, ↓wp_err, ↓wp_exc, ↓wp_bind, ↓wp_var, ↓wp_cst, ↓wp_bin, ↓wp_neg, ↓wp_cmp, ↓wp_and, ↓wp_or, ↓wp_not, ↓wp_ite, ↓wp_tup, ↓wp_lst, ↓wp_idx, ↓wp_slc, ↓wp_call, ↓wp_bi, ↓wp_bl, ↓wp_mt, ↓wp_mk, ↓wp_lr1, ↓wp_lr2, ↓wp_aa, ↓wp_tr2, ↓wp_maxD, ↓wp_srt, ↓wp_glc, ↓wp_rgN, ↓wp_srtD, ↓wp_lc2, ↓wp_i3, ↓wp_iv, ↓mt_pp, ↓mt_ppA, ↓wp_esn, ↓wp_esc, ↓wp_pn, ↓wp_pa, ↓wp_tv, ↓wp_ta, ↓wp_to, ↓wp_tn, ↓wp_lo, ↓wp_ld, ↓wp_lc, ↓wp_tsn, ↓wp_tsc, ↓wp_io, ↓wp_i1, ↓wp_i2, ↓wp_iz, ↓wp_ie, ↓wo_some, ↓wo_none, ↓br_t, ↓br_f, ↓wps_ok, ↓wps_st, ↓wb_add, ↓wb_sub, ↓wb_mulR, ↓wb_mulL, ↓wb_div, ↓wb_mod, ↓wb_pow, ↓wb_addT, ↓wb_mulT, ↓wb_addL, ↓wb_mulLs, ↓wn_neg, ↓wc_eq, ↓wc_ne, ↓wc_lt, ↓wc_le, ↓wc_gt, ↓wc_ge, ↓wc_in, ↓wc_nin, ↓wc_isN, ↓wc_notN, ↓item_int, ↓sl_tup, ↓sl_ref, ↓bi_len, ↓bi_abs, ↓bi_int, ↓bi_intb, ↓bi_isI, ↓bi_max, ↓bi_min, ↓bi_divmod, ↓bi_lcm, ↓bi_gcd, ↓bl_sum, ↓bl_tuple, ↓bl_list, ↓bl_len, ↓bl_max, ↓bl_min, ↓mt_app, ↓mt_ext, ↓mt_ix, ↓setIt_ref, ↓ws_n, ↓ws_c, ↓ws_expr, ↓ws_asg, ↓ws_set, ↓ws_aug, ↓ws_augS, ↓ws_bad, ↓ws_if, ↓ws_for, ↓ws_whl, ↓ws_ret, ↓ws_retN, ↓ws_brk, ↓ws_cont, ↓ws_pass, ↓sq_n, ↓sq_b, ↓sq_c, ↓sq_r, ↓sq_z, ↓fin_ret, ↓fin_next, ↓fin_rz, ↓isTy_cv, ↓isTy_rt, ↓tr_cv, ↓tr_rt, look_z, look_s, rgW_rg, isNon_non, isNon_bl, isNon_int, isNon_str, isNon_tup, isNon_fl, isNon_ref, eqW_int, eqW_bl, tr_non, tr_bl, tr_int, tr_tup, ixN_in, ixN_neg, mtW_ref, seqOf_ref, seqOf_tup, seqOf_fl, seqOf_rt, seqOf_cv, isNon_rt, isNon_cv, isTup_rt, isTup_cv, guOf_rt, guOf_cv, isTy_rt, isTy_cv, cv_eq, rt_eq, asg_rt, asg_cv, asg_var, asg_tup2, asg_tup3, isTy, guOf, isTup, intW, aug_add, aug_sub, augO_a, augO_s, lstAt_z, lstAt_s, lstAt_al, lstAt_e, lstAt_ar, Nat.sub_self, Nat.add_sub_cancel_left, Nat.reduceSubDiff, List.append_assoc, lstAt_set, lstAt_ne, toInts_ints, toInts_nil, toInts_cons, toBls_nil, toBls_cons, Option.map_some, List.set_cons_succ, List.set_cons_zero, List.getElem?_cons_zero, List.getElem?_cons_succ, List.getElem_cons_zero, List.getElem_cons_succ, List.length_cons, List.length_nil, List.length_set, List.length_append, List.length_map, List.nil_append, List.cons_append, List.append_nil, List.set_set, Nat.reduceAdd, Nat.reduceLeDiff, Nat.reduceLT, Nat.reduceSub, true_and, and_true, Bool.not_true, Bool.not_false, decide_true, decide_false, Int.reduceToNat, Int.reducePow, Int.reduceNeg, Int.cast_ofNat_Int, decide_eq_true_eq, Nat.zero_add, Nat.add_zero, Int.toNat_natCast, Int.reduceLT, Int.reduceLE, Int.reduceBNe, Int.reduceEq, Int.natCast_add, Nat.le_refl, L2']
  generalize hg3 : g2 ++ [_] = g3
  have T3 : Tp 0 1 g3 := by rw [← hg3]; exact F2.tp.app _
  have pg3 : lstAt g3 2 = some [cal (hd1, tn1), cal (hd2, tn2)] := by rw [← hg3, lst_new L2' (Nat.le_refl _)]; rfl
  have len3 := lstAt_lt pg3
  refine wps_rng (fun _ ρ g => Fr 0 1 g3 g ∧ ∃ x3 x4 x5 x6 x7 x8 x9 x10 x11, ρ = [some (.fl (ns.map W.int)), some (.ref 1), some (.ref 2), x3, x4, x5, x6, x7, x8, x9, x10, x11]) ?_ ⟨Fr.refl T3, _, _, _, _, _, _, _, _, _, rfl⟩ ?_
  · rintro j ρ g hj ⟨F, x3, x4, x5, x6, x7, x8, x9, x10, x11, rfl⟩
    try simp -implicitDefEqProofs -dsimp (disch := first | omega | (simp only [List.length_set, List.length_append, List.length_cons, List.length_nil, List.length_map]; omega)) only [↓wp_ok, ↓wp_err, ↓wp_exc, ↓wp_bind, ↓wp_var, ↓wp_cst, ↓wp_bin, ↓wp_neg, ↓wp_cmp, ↓wp_and, ↓wp_or, ↓wp_not, ↓wp_ite, ↓wp_tup, ↓wp_lst, ↓wp_idx, ↓wp_slc, ↓wp_call, ↓wp_bi, ↓wp_bl, ↓wp_mt, ↓wp_mk, ↓wp_lr1, ↓wp_lr2, ↓wp_aa, ↓wp_tr2, ↓wp_maxD, ↓wp_srt, ↓wp_glc, ↓wp_rgN, ↓wp_srtD, ↓wp_lc2, ↓wp_i3, ↓wp_iv, ↓mt_pp, ↓mt_ppA, ↓wp_esn, ↓wp_esc, ↓wp_pn, ↓wp_pa, ↓wp_tv, ↓wp_ta, ↓wp_to, ↓wp_tn, ↓wp_lo, ↓wp_ld, ↓wp_lc, ↓wp_tsn, ↓wp_tsc, ↓wp_io, ↓wp_i1, ↓wp_i2, ↓wp_iz, ↓wp_ie, ↓wo_some, ↓wo_none, ↓br_t, ↓br_f, ↓wps_ok, ↓wps_st, ↓wb_add, ↓wb_sub, ↓wb_mulR, ↓wb_mulL, ↓wb_div, ↓wb_mod, ↓wb_pow, ↓wb_addT, ↓wb_mulT, ↓wb_addL, ↓wb_mulLs, ↓wn_neg, ↓wc_eq, ↓wc_ne, ↓wc_lt, ↓wc_le, ↓wc_gt, ↓wc_ge, ↓wc_in, ↓wc_nin, ↓wc_isN, ↓wc_notN, ↓item_int, ↓sl_tup, ↓sl_ref, ↓bi_len, ↓bi_abs, ↓bi_int, ↓bi_intb, ↓bi_isI, ↓bi_max, ↓bi_min, ↓bi_divmod, ↓bi_lcm, ↓bi_gcd, ↓bl_sum, ↓bl_tuple, ↓bl_list, ↓bl_len, ↓bl_max, ↓bl_min, ↓mt_app, ↓mt_ext, ↓mt_ix, ↓setIt_ref, ↓ws_n, ↓ws_c, ↓ws_expr, ↓ws_asg, ↓ws_set, ↓ws_aug, ↓ws_augS, ↓ws_bad, ↓ws_if, ↓ws_for, ↓ws_whl, ↓ws_ret, ↓ws_retN, ↓ws_brk, ↓ws_cont, ↓ws_pass, ↓sq_n, ↓sq_b, ↓sq_c, ↓sq_r, ↓sq_z, ↓fin_ret, ↓fin_next, ↓fin_rz, ↓isTy_cv, ↓isTy_rt, ↓tr_cv, ↓tr_rt, look_z, look_s, rgW_rg, isNon_non, isNon_bl, isNon_int, isNon_str, isNon_tup, isNon_fl, isNon_ref, eqW_int, eqW_bl, tr_non, tr_bl, tr_int, tr_tup, ixN_in, ixN_neg, mtW_ref, seqOf_ref, seqOf_tup, seqOf_fl, seqOf_rt, seqOf_cv, isNon_rt, isNon_cv, isTup_rt, isTup_cv, guOf_rt, guOf_cv, isTy_rt, isTy_cv, cv_eq, rt_eq, asg_rt, asg_cv, asg_var, asg_tup2, asg_tup3, isTy, guOf, isTup, intW, aug_add, aug_sub, augO_a, augO_s, lstAt_z, lstAt_s, lstAt_al, lstAt_e, lstAt_ar, Nat.sub_self, Nat.add_sub_cancel_left, Nat.reduceSubDiff, List.append_assoc, lstAt_set, lstAt_ne, toInts_ints, toInts_nil, toInts_cons, toBls_nil, toBls_cons, Option.map_some, List.set_cons_succ, List.set_cons_zero, List.getElem?_cons_zero, List.getElem?_cons_succ, List.getElem_cons_zero, List.getElem_cons_succ, List.length_cons, List.length_nil, List.length_set, List.length_append, List.length_map, List.nil_append, List.cons_append, List.append_nil, List.set_set, Nat.reduceAdd, Nat.reduceLeDiff, Nat.reduceLT, Nat.reduceSub, true_and, and_true, Bool.not_true, Bool.not_false, decide_true, decide_false, Int.reduceToNat, Int.reducePow, Int.reduceNeg, Int.cast_ofNat_Int, decide_eq_true_eq, Nat.zero_add, Nat.add_zero, Int.toNat_natCast, Int.reduceLT, Int.reduceLE, Int.reduceBNe, Int.reduceEq, Int.natCast_add, Nat.le_refl]
    exact law_turn (k := 55) (c0 := (hd1, tn1)) (c1 := (hd2, tn2)) F.tp ⟨l1, x1, s1⟩ ⟨l2, x2, s2⟩ (by rw [F.lst len3 (by omega), pg3]) fun y4 y5 y6 y7 y8 y9 y10 y11 g' F' => ⟨F.trans F', _, _, _, _, _, _, _, _, _, rfl⟩
  · rintro ρ g ⟨F, x3, x4, x5, x6, x7, x8, x9, x10, x11, rfl⟩
    try simp -implicitDefEqProofs -dsimp (disch := first | omega | (simp only [List.length_set, List.length_append, List.length_cons, List.length_nil, List.length_map]; omega)) only [↓wp_ok, ↓wp_err, ↓wp_exc, ↓wp_bind, ↓wp_var, ↓wp_cst, ↓wp_bin, ↓wp_neg, ↓wp_cmp, ↓wp_and, ↓wp_or, ↓wp_not, ↓wp_ite, ↓wp_tup, ↓wp_lst, ↓wp_idx, ↓wp_slc, ↓wp_call, ↓wp_bi, ↓wp_bl, ↓wp_mt, ↓wp_mk, ↓wp_lr1, ↓wp_lr2, ↓wp_aa, ↓wp_tr2, ↓wp_maxD, ↓wp_srt, ↓wp_glc, ↓wp_rgN, ↓wp_srtD, ↓wp_lc2, ↓wp_i3, ↓wp_iv, ↓mt_pp, ↓mt_ppA, ↓wp_esn, ↓wp_esc, ↓wp_pn, ↓wp_pa, ↓wp_tv, ↓wp_ta, ↓wp_to, ↓wp_tn, ↓wp_lo, ↓wp_ld, ↓wp_lc, ↓wp_tsn, ↓wp_tsc, ↓wp_io, ↓wp_i1, ↓wp_i2, ↓wp_iz, ↓wp_ie, ↓wo_some, ↓wo_none, ↓br_t, ↓br_f, ↓wps_ok, ↓wps_st, ↓wb_add, ↓wb_sub, ↓wb_mulR, ↓wb_mulL, ↓wb_div, ↓wb_mod, ↓wb_pow, ↓wb_addT, ↓wb_mulT, ↓wb_addL, ↓wb_mulLs, ↓wn_neg, ↓wc_eq, ↓wc_ne, ↓wc_lt, ↓wc_le, ↓wc_gt, ↓wc_ge, ↓wc_in, ↓wc_nin, ↓wc_isN, ↓wc_notN, ↓item_int, ↓sl_tup, ↓sl_ref, ↓bi_len, ↓bi_abs, ↓bi_int, ↓bi_intb, ↓bi_isI, ↓bi_max, ↓bi_min, ↓bi_divmod, ↓bi_lcm, ↓bi_gcd, ↓bl_sum, ↓bl_tuple, ↓bl_list, ↓bl_len, ↓bl_max, ↓bl_min, ↓mt_app, ↓mt_ext, ↓mt_ix, ↓setIt_ref, ↓ws_n, ↓ws_c, ↓ws_expr, ↓ws_asg, ↓ws_set, ↓ws_aug, ↓ws_augS, ↓ws_bad, ↓ws_if, ↓ws_for, ↓ws_whl, ↓ws_ret, ↓ws_retN, ↓ws_brk, ↓ws_cont, ↓ws_pass, ↓sq_n, ↓sq_b, ↓sq_c, ↓sq_r, ↓sq_z, ↓fin_ret, ↓fin_next, ↓fin_rz, ↓isTy_cv, ↓isTy_rt, ↓tr_cv, ↓tr_rt, look_z, look_s, rgW_rg, isNon_non, isNon_bl, isNon_int, isNon_str, isNon_tup, isNon_fl, isNon_ref, eqW_int, eqW_bl, tr_non, tr_bl, tr_int, tr_tup, ixN_in, ixN_neg, mtW_ref, seqOf_ref, seqOf_tup, seqOf_fl, seqOf_rt, seqOf_cv, isNon_rt, isNon_cv, isTup_rt, isTup_cv, guOf_rt, guOf_cv, isTy_rt, isTy_cv, cv_eq, rt_eq, asg_rt, asg_cv, asg_var, asg_tup2, asg_tup3, isTy, guOf, isTup, intW, aug_add, aug_sub, augO_a, augO_s, lstAt_z, lstAt_s, lstAt_al, lstAt_e, lstAt_ar, Nat.sub_self, Nat.add_sub_cancel_left, Nat.reduceSubDiff, List.append_assoc, lstAt_set, lstAt_ne, toInts_ints, toInts_nil, toInts_cons, toBls_nil, toBls_cons, Option.map_some, List.set_cons_succ, List.set_cons_zero, List.getElem?_cons_zero, List.getElem?_cons_succ, List.getElem_cons_zero, List.getElem_cons_succ, List.length_cons, List.length_nil, List.length_set, List.length_append, List.length_map, List.nil_append, List.cons_append, List.append_nil, List.set_set, Nat.reduceAdd, Nat.reduceLeDiff, Nat.reduceLT, Nat.reduceSub, true_and, and_true, Bool.not_true, Bool.not_false, decide_true, decide_false, Int.reduceToNat, Int.reducePow, Int.reduceNeg, Int.cast_ofNat_Int, decide_eq_true_eq, Nat.zero_add, Nat.add_zero, Int.toNat_natCast, Int.reduceLT, Int.reduceLE, Int.reduceBNe, Int.reduceEq, Int.natCast_add, Nat.le_refl]
    rw [tidy_nil blw_bl]
    rfl
end Law

/-! The head and the end, printed by gen.py. -/
open PySem PySem.W PySem.Calls PyProof.Rows Ev
abbrev Law.R : PySem.W.OpenRow := PySem.W.OpenLaw.row PySem.Challenge.rw_plantrace_k78_latest_start_and_elapsed
abbrev Law.hk : PySem.W.Hook := hookE 4 (faOf Law.rs Law.blt) (fnOf Law.P Law.rs) (exOf Law.mth Law.cns)
theorem Law.run (w : World) : HandSHeadRun.RunEq Law.R (PySem.W.view Law.R.prog [20]) Law.hk (obE 4 (faOf Law.rs Law.blt) (fnOf Law.P Law.rs) (exOf Law.mth Law.cns)) 4000 ["value_at", "least_point", "greatest_point", "finish", "latest_start", "greatest_elapsed", "_law_tape", "_law_draw", "_law_same", "_law_step", "_law_rise", "_law_curve", "_law_work", "_law_last_start", "_law_amount", "_law_longest", "_law_by"] w := by
  intro os
  kernel_rfl
set_option maxHeartbeats 0 in
theorem PySem.Challenge.cw_plantrace_k78_latest_start_and_elapsed_holds : PySem.Challenge.rw_plantrace_k78_latest_start_and_elapsed.Holds := by
  w_on; o_law
  refine HandSHeadRun.head_any (r := OpenLaw.row PySem.Challenge.rw_plantrace_k78_latest_start_and_elapsed) (q := view (OpenLaw.row PySem.Challenge.rw_plantrace_k78_latest_start_and_elapsed).prog [20]) (H := Law.hk) (ob := obE 4 (faOf Law.rs Law.blt) (fnOf Law.P Law.rs) (exOf Law.mth Law.cns)) (M := 4000) (loose := ["value_at", "least_point", "greatest_point", "finish", "latest_start", "greatest_elapsed", "_law_tape", "_law_draw", "_law_same", "_law_step", "_law_rise", "_law_curve", "_law_work", "_law_last_start", "_law_amount", "_law_longest", "_law_by"]) (d := HandSHeadRun.topDef (OpenLaw.row PySem.Challenge.rw_plantrace_k78_latest_start_and_elapsed).prog 20) (kwd := []) (obE_eq _ _ _ _) (by kernel_rfl) (fun s => by kernel_rfl) Law.run (by kernel_rfl) (by kernel_rfl) (by kernel_rfl) (by rfl) (by first | assumption | decide +kernel) (by decide +kernel) ⟨rfl, rfl, rfl, rfl, rfl, by decide +kernel⟩ ?hw ?hc
  case hw => w_witness2
  case hc =>
    exact walk_ev (l := PySem.Challenge.rw_plantrace_k78_latest_start_and_elapsed) (n := 63) (k := 60) (li := 17) (r := Law.r_law) (rs := Law.rs) (blt := Law.blt) (mth := Law.mth) (cns := Law.cns) rfl (by decide) (by kernel_rfl) ⟨rfl, by decide, by decide⟩ (by kernel_rfl) Law.oks rfl rfl Law.law_true
