import PyProof.Rows.All
import Wide.All
import OpenK.AllK
import Wide.FinOn
import KE.KStateDown
import Lean
import HandS.Codes
import HandS.Comp
import HandS.Conv
import HandS.Defaults
import HandS.Dict
import HandS.ForMost
import HandS.Head0
import HandS.Head1
import HandS.Head2
import HandS.HeadEnd
import HandS.HeadHook1
import HandS.HeadHook2
import HandS.HeadHook3
import HandS.HeadHook4
import HandS.HeadWalk
import HandS.IsInst
import HandS.Iter
import HandS.Lambda
import HandS.MakeKwOnly
import HandS.More
import HandS.Property
import HandS.Small
import HandS.Star
import HandS.StrSplit
import HandS.Style
import HandS.Text
import HandS.TupAny
import HandS.TupLen
import HandS.TupMul
import HandS.Zip
import KE.DataAny
import KE.DataCmp
import KE.DataEq
import KE.DataFind
import KE.DataIsa
import KE.DataMinMax
import KE.Datum
import KE.DatumOrd
import KE.GoesEnum
import KE.GoesMore
import KE.KSortKey
import KE.SortData
import KE.SortKeyHeap
import PyProof.StrOps2
import PySem.Challenge.RW_rainbowways_k04_whole_ways
set_option Elab.async false
set_option linter.all false
set_option maxRecDepth 100000
namespace RW
open PySem PySem.W

/-! ## values -/
abbrev D := PyData
/-- values: data; an owned object of the store; a list of such; a lambda with what it captured -/
inductive W where
  | d (x : D) | ref (i : Nat) | refs (l : List Nat) | clo (k : Nat) (caps : List D) | scr (l : List Int) | drefs (l : List (Str × Nat))
/-- owned objects -/
inductive MO where
  | lst (l : List D) | dct (t : Bool) (l : List (D × D)) | ins (c : Str) (fs : List (Str × D)) | dead
abbrev Env1 := List (Option W)
abbrev Sto := List MO
def slot (e : Env1) (i : Nat) : Option W := match e[i]? with
  | some (some w) => some w
  | _ => none
def instD (c : Str) (fs : List (Str × D)) : D := .dict ((.list [], .str c) :: fs.map fun p => (.str p.1, p.2))
def fnD (n : Nat) : D := .dict [(.list [.none], .int n)]
def rd (S : Sto) : W → Option D
  | .d x => some x
  | .ref i => match S[i]? with
    | some (.lst l) => some (.list l)
    | some (.dct _ l) => some (.dict l)
    | _ => none
  | _ => none
def pd : W → Option D
  | .d x => some x
  | _ => none
def pds : List W → Option (List D)
  | [] => some []
  | .d x :: r => (pds r).map (x :: ·)
  | _ => none
def prefs : List W → Option (List Nat)
  | [] => some []
  | .ref x :: r => (prefs r).map (x :: ·)
  | _ => none
def bd {α β : Type} (m : Option (α × Sto)) (f : α → Sto → Option β) : Option β := match m with
  | none => none
  | some (x, S) => f x S
def ob {α β : Type} (m : Option α) (f : α → Option β) : Option β := match m with
  | none => none
  | some x => f x
@[simp] theorem bd_some {α β : Type} (x : α) (S : Sto) (f : α → Sto → Option β) : bd (some (x, S)) f = f x S := by unfold bd; simp only []
@[simp] theorem bd_none {α β : Type} (f : α → Sto → Option β) : bd (none : Option (α × Sto)) f = none := rfl
@[simp] theorem ob_some {α β : Type} (x : α) (f : α → Option β) : ob (some x) f = f x := by unfold ob; simp only []
@[simp] theorem ob_none {α β : Type} (f : α → Option β) : ob (none : Option α) f = none := rfl
/-- lengths that are let -/
def LIM : Nat := 16000000
def lim (n : Nat) : Bool := decide (n ≤ LIM)
def okD (x : D) : Bool := x.plain && decide (x.depth ≤ 60)

/-! ## operators on data -/
def strMul (s : Str) (n : Nat) : Str := ⟨(List.replicate n s.cps.toList).flatten.toArray⟩
def bigOk (i : Int) : Bool := decide (-(2 ^ 64) < i ∧ i < 2 ^ 64)
def binD : Operator → D → D → Option D
  | .Add, .int i, .int j => some (.int (i + j))
  | .Add, .str a, .str b => if lim (a.length + b.length) then some (.str (a ++ b)) else none
  | .Add, .list a, .list b => if lim (a.length + b.length) then some (.list (a ++ b)) else none
  | .Add, .tuple a, .tuple b => if lim (a.length + b.length) then some (.tuple (a ++ b)) else none
  | .Sub, .int i, .int j => some (.int (i - j))
  | .Mult, .int i, .int j => if bigOk i || bigOk j then some (.int (i * j)) else none
  | .Mult, .str a, .int j => if decide (2 ≤ j ∧ j ≤ 1000 ∧ a.length ≤ 1000 ∧ a.length ≠ 0) then some (.str (strMul a j.toNat)) else none
  | .Mult, .tuple a, .int j => if decide (1 ≤ j ∧ j ≤ 1000 ∧ a.length ≤ 1000 ∧ a ≠ []) then some (.tuple (List.replicate j.toNat a).flatten) else none
  | .Mult, .list a, .int j => if decide (0 ≤ j ∧ j ≤ 1000 ∧ a.length ≤ 1000) then some (.list (List.replicate j.toNat a).flatten) else none
  | .FloorDiv, .int i, .int j => if decide (0 < j ∧ j < 1073741824) then some (.int (i / j)) else none
  | .Mod, .int i, .int j => if decide (0 < j) then some (.int (i % j)) else none
  | .Pow, .int i, .int j => if decide (0 ≤ j ∧ j ≤ 1000 ∧ i.natAbs ≤ 1000) then some (.int (i ^ j.toNat)) else none
  | _, _, _ => none
/-- a key of a dict -/
def keyA : D → Bool
  | .int _ => true
  | .str _ => true
  | _ => false
def keyD : D → Bool
  | .int _ => true
  | .str _ => true
  | .tuple xs => xs.all keyA && decide (xs.length ≤ 3)
  | _ => false
/-- the entry of a key -/
def dget (kvs : List (D × D)) (k : D) : Option D := (kvs.find? fun p => PyData.eqv p.1 k).map (·.2)
def dput (kvs : List (D × D)) (k v : D) : List (D × D) := if (dget kvs k).isSome then kvs.map fun p => if PyData.eqv p.1 k then (p.1, v) else p else kvs ++ [(k, v)]
/-- keys of one sort: texts and numbers, or tuples -/
def isTupD : D → Bool
  | .tuple _ => true
  | _ => false
def keysOk (kvs : List (D × D)) (k : D) : Bool := keyD k && (!kvs.isEmpty) && kvs.all fun p => keyD p.1 && (isTupD p.1 == isTupD k)
def notN : D → Bool
  | .none => false
  | _ => true
def ltOk (x y : D) : Bool := alike x y && notN x && okD x && okD y
def cmpD : CmpOp → D → D → Option Bool
  | .Eq, x, y => if okD x && okD y then some (PyData.eqv x y) else none
  | .NotEq, x, y => if okD x && okD y then some (!PyData.eqv x y) else none
  | .Lt, x, y => if ltOk x y then some (dataLt x y) else none
  | .Gt, x, y => if ltOk x y then some (dataLt y x) else none
  | .LtE, x, y => if ltOk x y then some (!dataLt y x) else none
  | .GtE, x, y => if ltOk x y then some (!dataLt x y) else none
  | .In, x, .list ys => if okD x && ys.all okD then some (ys.any fun y => PyData.eqv y x) else none
  | .In, x, .tuple ys => if okD x && ys.all okD then some (ys.any fun y => PyData.eqv y x) else none
  | .In, x, .dict kvs => if keysOk kvs x then some (dget kvs x).isSome else none
  | .In, .str a, .str b => if a.length == 1 then some (b.cps.toList.contains (a.cps.getD 0 0)) else none
  | .NotIn, x, .list ys => if okD x && ys.all okD then some (!ys.any fun y => PyData.eqv y x) else none
  | .NotIn, x, .tuple ys => if okD x && ys.all okD then some (!ys.any fun y => PyData.eqv y x) else none
  | .NotIn, x, .dict kvs => if keysOk kvs x then some (!(dget kvs x).isSome) else none
  | .Is, x, .none => some (!notN x)
  | .IsNot, x, .none => some (notN x)
  | .Is, .bool a, .bool b => some (a == b)
  | _, _, _ => none
/-- an index of any sign -/
def ixD (n : Nat) (i : Int) : Option Nat := if decide (0 ≤ i ∧ i < n) then some i.toNat else if decide (i < 0 ∧ 0 ≤ i + n) then some (i + n).toNat else none
def subD : D → D → Option D
  | .list xs, .int i => ob (ixD xs.length i) fun j => xs[j]?
  | .tuple xs, .int i => ob (ixD xs.length i) fun j => xs[j]?
  | .str z, .int i => if lim z.length then (ob (ixD z.length i) fun j => (z.cps[j]?).map fun c => .str ⟨#[c]⟩) else none
  | .dict kvs, k => if keysOk kvs k then dget kvs k else none
  | _, _ => none
/-- a bound of a slice -/
def bound (n : Nat) (dflt : Nat) : Option D → Option Nat
  | none => some dflt
  | some (.int i) => some (if i < 0 then (i + n).toNat else min i.toNat n)
  | _ => none
def cutL {α : Type} (xs : List α) (i j : Nat) : List α := (xs.drop i).take (j - i)
def slcD (x : D) (lo hi : Option D) : Option D := match x with
  | .list xs => ob (bound xs.length 0 lo) fun i => ob (bound xs.length xs.length hi) fun j => some (.list (cutL xs i j))
  | .tuple xs => ob (bound xs.length 0 lo) fun i => ob (bound xs.length xs.length hi) fun j => some (.tuple (cutL xs i j))
  | .str z => ob (bound z.length 0 lo) fun i => ob (bound z.length z.length hi) fun j => if lim z.length then some (.str ⟨(cutL z.cps.toList i j).toArray⟩) else none
  | _ => none
def revD : D → Option D
  | .tuple xs => some (.tuple xs.reverse)
  | _ => none

/-! ## built-ins on data -/
inductive Bi where
  | len | abs | int | tuple | list | sorted | all | any | max | min | dict | dictZip | listRange | tupleRange | divmod | isinst (t : String) | lenSet | sortedSet | maxValues | combs
  deriving DecidableEq
def isInst : D → Bool
  | .dict ((.list [], .str c) :: _) => decide (c = "Web")
  | _ => false
def isFn : D → Bool
  | .dict [(.list [.none], .int _)] => true
  | _ => false
def isD (t : String) (x : D) : Option Bool :=
  if isFn x then none else if t = "tuple" then some x.isTuple else if t = "list" then some x.isList else if t = "str" then some x.isStr else if t = "int" then some x.isInt else if t = "bool" then some x.isBool else if t = "dict" then some (x.isDict && !isInst x) else if t = "Web" then some (isInst x) else none
def lenD : D → Option Nat
  | .list xs => some xs.length
  | .tuple xs => some xs.length
  | .str z => if lim z.length then some z.length else none
  | .dict kvs => if kvs.all fun p => keyD p.1 then some kvs.length else none
  | _ => none
def boolsD : List D → Option (List Bool)
  | [] => some []
  | .bool b :: r => (boolsD r).map (b :: ·)
  | _ => none
def pairsD : List D → Option (List (D × D))
  | [] => some []
  | .tuple [k, v] :: r => if keyD k then (pairsD r).map ((k, v) :: ·) else none
  | _ => none
def dmake (ps : List (D × D)) : List (D × D) := ps.foldl (fun kvs p => dput kvs p.1 p.2) []
def allAlike (xs : List D) : Bool := xs.all fun x => xs.all fun y => alike x y
def tup1 : D → Bool
  | .tuple (_ :: _) => true
  | _ => false
def sortOk (xs : List D) : Bool := allAlike xs && xs.all okD && lim xs.length && (xs.all tup1 || xs.all fun x => notN x && !isTupD x)
def sortD (xs : List D) : List D := xs.mergeSort (dataLe false id)
def intsD : List D → Option (List Int)
  | [] => some []
  | .int i :: r => (intsD r).map (i :: ·)
  | _ => none
def rangeL (lo hi : Int) : List D := (List.range (hi - lo).toNat).map fun (k : Nat) => .int (lo + k)
def small62 (i : Int) : Bool := decide (-(2 ^ 62) ≤ i ∧ i < 2 ^ 62)
def minOk (xs : List D) : Bool := allAlike xs && xs.all (fun x => okD x && notN x) && lim xs.length
/-- two alone: numbers, or texts -/
def atomD : D → D → Bool
  | .int _, .int _ => true
  | .str _, .str _ => true
  | _, _ => false
/-- the first least, the first greatest -/
def leastD (x : D) (xs : List D) : D := minD x xs
def mostD (x : D) (xs : List D) : D := maxD x xs
end RW
set_option Elab.async false
set_option linter.all false
set_option maxRecDepth 100000
namespace RW
open PySem PySem.W
/-! ## the core language -/
inductive Me where
  | append | extend | pop | pop1 | count | index | split | get2
  deriving DecidableEq
/-- targets: a name's slot, a tuple of such, d[k] -/
inductive Tg where
  | nm (i : Nat) | tp (l : List Nat) | tp1 (i : Nat) (l : List Nat)
mutual
inductive E where
  | v (i : Nat) | k (x : D) | g (x : Str) | fn (f : Nat)
  | bin (o : Operator) (a b : E) | neg (a : E) | nt (a : E)
  | and (a b : E) | or (a b : E) | ite (t a b : E)
  | cmp (o : CmpOp) (a b : E) | chn (o o' : CmpOp) (a b c : E)
  | tup (es : Es) | lst (es : Es) | own (es : Es) | dic0 (t : Bool) | dic1 (a b : E)
  | sub (a i : E) | slc (a : E) (lo hi : Eo) | rev (a : E)
  | att (a : E) (f : Str)
  | call (f : Nat) (es : Es) | callK (f : Nat) (es : Es) | make (f : Nat) (c : Str) (es : Es) | makeK (f : Nat) (c : Str) (es : Es)
  | callV (i : Nat) (es : Es) | callL (f : Nat) (es : Es) (l : Nat) (caps : List Nat)
  | bi (b : Bi) (es : Es) | me (m : Me) (a : E) (es : Es) | ownList (a : E)
  | srt (a : E) | minK (a : E)
  | lc (elt : E) (g : Gn) (own : List Nat) | lc2 (elt : E) (g1 g2 : Gn) (own : List Nat)
  | frz (i : Nat)
  | freshD (i : Nat) (a : E) | dictOf (a : E) | subR (a i : E)
inductive Es where
  | nil | cons (e : E) (r : Es) | star (e : E) (r : Es)
inductive Eo where
  | no | so (e : E)
inductive It where
  | e (a : E) | r1 (a : E) | r2 (a b : E) | zip (a b : E) | enum (a : E)
inductive Gn where
  | mk (t : Tg) (it : It) (ifs : Eo)
end
mutual
inductive T where
  | asg (t : Tg) (e : E) | par (l : List Nat) (es : Es)
  | setI (a i e : E) | setIT (a i : E) (j : Nat) (e : E) | setF (a : E) (f : Str) (e : E)
  | ex (e : E) | ret (e : E) | retN
  | ite (t : E) (a b : Ts) | for (t : Tg) (it : It) (b : Ts) | whl (t : E) (b : Ts) | pass | never
inductive Ts where
  | nil | cons (t : T) (r : Ts)
end
/-- a def: its name in the text, its parameters and other names (by slot), its body; keep: an owned result stays owned -/
structure FnD where
  name : Str
  np : Nat
  N : List Str
  body : Ts
  keep : Bool := false
  nat : Option (List D → Option D) := none
inductive Fl where
  | nx | rt (w : W) | bk | ct

/-- the text's names of a web's places, its ties -/
def strsD : List D → Option (List Str)
  | [] => some []
  | .str x :: r => (strsD r).map (x :: ·)
  | _ => none
def tiesD : List D → Option (List (Str × Str))
  | [] => some []
  | .tuple [.str x, .str y] :: r => (tiesD r).map ((x, y) :: ·)
  | _ => none
/-- what _law_near makes: for each place the places tied to it, ascending -/
def besideS (ties : List (Str × Str)) (p : Str) : List Str := ties.flatMap fun t => (if t.1 = p then [t.2] else []) ++ (if t.2 = p then [t.1] else [])
def nearSem : List D → Option D
  | [.tuple [.tuple ps, .tuple ts]] => ob (strsD ps) fun ps => ob (tiesD ts) fun ts => if decide (ps.Nodup) && decide (ps.length ≤ 1000) && decide (ts.length ≤ 1000) && ts.all (fun t => ps.contains t.1 && ps.contains t.2) then
      some (.dict (ps.map fun p => (.str p, .list (sortD ((besideS ts p).map .str))))) else none
  | _ => none

/-! ## the interpreter -/
abbrev Call := Nat → List W → Sto → Option (W × Sto)
def asg1 (e : Env1) (i : Nat) (w : W) : Option Env1 := if i < e.length then some (e.set i (some w)) else none
def asgL (e : Env1) : List Nat → List D → Option Env1
  | [], [] => some e
  | i :: l, x :: xs => ob (asg1 e i (.d x)) fun e => asgL e l xs
  | _, _ => none
def asgT (e : Env1) (t : Tg) (w : W) : Option Env1 := match t with
  | .nm i => asg1 e i w
  | .tp l => match w with
    | .d (.tuple xs) => asgL e l xs
    | _ => none
  | .tp1 i l => match w with
    | .d (.tuple [x, .tuple xs]) => ob (asg1 e i (.d x)) fun e => asgL e l xs
    | _ => none
def asgW (e : Env1) : List Nat → List W → Option Env1
  | [], [] => some e
  | i :: l, x :: xs => ob (asg1 e i x) fun e => asgW e l xs
  | _, _ => none
def wipe1 (e : Env1) : List Nat → Env1
  | [] => e
  | v :: vs => (wipe1 e vs).set v none
def mkL (ws : List W) : Option W := if lim ws.length then (match pds ws with
  | some xs => some (.d (.list xs))
  | none => (prefs ws).map .refs) else none
/-- a comprehension's turns -/
def lcR (a : W → Option Env1) (ts : Env1 → Sto → Option (Bool × Sto)) (el : Env1 → Sto → Option (W × Sto)) : List D → Sto → Option (List W × Sto)
  | [], S => some ([], S)
  | x :: xs, S => ob (a (.d x)) fun e => bd (ts e S) fun b S => match b with
    | true => bd (el e S) fun w S => bd (lcR a ts el xs S) fun ws S => some (w :: ws, S)
    | false => lcR a ts el xs S
/-- .. of two clauses -/
def lcR2 (a : W → Option Env1) (inner : Env1 → Sto → Option (List W × Sto)) : List D → Sto → Option (List W × Sto)
  | [], S => some ([], S)
  | x :: xs, S => ob (a (.d x)) fun e => bd (inner e S) fun ws S => bd (lcR2 a inner xs S) fun ws' S => some (ws ++ ws', S)
def forR (a : W → Env1 → Option Env1) (body : Env1 → Sto → Option ((Fl × Env1) × Sto)) : List D → Env1 → Sto → Option ((Fl × Env1) × Sto)
  | [], e, S => some ((.nx, e), S)
  | x :: xs, e, S => ob (a (.d x) e) fun e => bd (body e S) fun p S => match p with
    | (.nx, e) => forR a body xs e S
    | (.ct, e) => forR a body xs e S
    | (.bk, e) => some ((.nx, e), S)
    | (.rt w, e) => some ((.rt w, e), S)
def whlR (t : Env1 → Sto → Option (Bool × Sto)) (body : Env1 → Sto → Option ((Fl × Env1) × Sto)) : Nat → Env1 → Sto → Option ((Fl × Env1) × Sto)
  | 0, _, _ => none
  | n + 1, e, S => bd (t e S) fun b S => match b with
    | false => some ((.nx, e), S)
    | true => bd (body e S) fun p S => match p with
      | (.nx, e) => whlR t body n e S
      | (.ct, e) => whlR t body n e S
      | (.bk, e) => some ((.nx, e), S)
      | (.rt w, e) => some ((.rt w, e), S)
open Classical in
/-- as many turns as it takes -/
noncomputable def whlC (t : Env1 → Sto → Option (Bool × Sto)) (body : Env1 → Sto → Option ((Fl × Env1) × Sto)) (e : Env1) (S : Sto) : Option ((Fl × Env1) × Sto) :=
  if h : ∃ n, (whlR t body n e S).isSome then whlR t body (choose h) e S else none
def callV (call : Call) (w : W) (ws : List W) (S : Sto) : Option (W × Sto) := match w with
  | .d (.dict [(.list [.none], .int n)]) => call n.toNat ws S
  | .clo k caps => call k (caps.map .d ++ ws) S
  | _ => none
def caps (e : Env1) : List Nat → Option (List D)
  | [] => some []
  | i :: l => match slot e i with
    | some (.d x) => (caps e l).map (x :: ·)
    | _ => none
/-- captured data: what no one changes -/
def atomB : D → Bool
  | .int _ => true
  | .str _ => true
  | .bool _ => true
  | .none => true
  | _ => false
def capD : D → Bool
  | .tuple xs => xs.all atomB
  | x => atomB x
def tupA : D → Bool
  | .tuple xs => xs.all atomB
  | _ => false
/-- no lambda among the arguments -/
def noClo : List W → Bool
  | [] => true
  | .clo _ _ :: _ => false
  | _ :: r => noClo r
def freshI (S : Sto) (mo : MO) : Option (W × Sto) := some (.ref S.length, S ++ [mo])
def bLen : List D → Option D
  | [x] => (lenD x).map fun n => .int n
  | _ => none
def bAbs : List D → Option D
  | [.int i] => some (.int (if i < 0 then -i else i))
  | _ => none
def bInt : List D → Option D
  | [.int i] => some (.int i)
  | [.bool b] => some (.int (if b then 1 else 0))
  | _ => none
def bTuple : List D → Option D
  | [.list xs] => some (.tuple xs)
  | [.tuple xs] => some (.tuple xs)
  | _ => none
def bList : List D → Option D
  | [.list xs] => some (.list xs)
  | [.tuple xs] => some (.list xs)
  | [.dict kvs] => if kvs.all fun p => keyD p.1 then some (.list (kvs.map (·.1))) else none
  | _ => none
def bSorted : List D → Option D
  | [.list xs] => if sortOk xs then some (.list (sortD xs)) else none
  | [.tuple xs] => if sortOk xs then some (.list (sortD xs)) else none
  | _ => none
def bAll : List D → Option D
  | [.list xs] => (boolsD xs).map fun bs => .bool (bs.all id)
  | _ => none
def bAny : List D → Option D
  | [.list xs] => (boolsD xs).map fun bs => .bool (bs.any id)
  | _ => none
def bMax : List D → Option D
  | [.list (x :: xs)] => if minOk (x :: xs) then some (mostD x xs) else none
  | [.tuple (x :: xs)] => if minOk (x :: xs) then some (mostD x xs) else none
  | [x, y] => if atomD x y then some (mostD x [y]) else none
  | _ => none
def bMin : List D → Option D
  | [.list (x :: xs)] => if minOk (x :: xs) then some (leastD x xs) else none
  | [x, y] => if atomD x y then some (leastD x [y]) else none
  | _ => none
def bDict : List D → Option D
  | [.list xs] => (pairsD xs).map fun ps => .dict (dmake ps)
  | _ => none
def bDictZip : List D → Option D
  | [.tuple xs, .tuple ys] => (pairsD ((xs.zip ys).map fun p => .tuple [p.1, p.2])).map fun ps => .dict (dmake ps)
  | [.tuple xs, .list ys] => (pairsD ((xs.zip ys).map fun p => .tuple [p.1, p.2])).map fun ps => .dict (dmake ps)
  | [.list xs, .list ys] => (pairsD ((xs.zip ys).map fun p => .tuple [p.1, p.2])).map fun ps => .dict (dmake ps)
  | _ => none
def bListRange : List D → Option D
  | [.int j] => if small62 j && lim j.toNat then some (.list (rangeL 0 j)) else none
  | _ => none
def bTupleRange : List D → Option D
  | [.int j] => if small62 j && lim j.toNat then some (.tuple (rangeL 0 j)) else none
  | _ => none
def bDivmod : List D → Option D
  | [.int i, .int j] => if decide (0 < j ∧ j < 1073741824) then some (.tuple [.int (i / j), .int (i % j)]) else none
  | _ => none
def bIsinst (t : String) : List D → Option D
  | [x] => (isD t x).map .bool
  | _ => none
def bLenSet : List D → Option D
  | [.list xs] => (intsD xs).map fun l => .int l.eraseDups.length
  | _ => none
def bSortedSet : List D → Option D
  | [.tuple xs] => (intsD xs).map fun l => .list ((l.eraseDups.mergeSort fun a b => decide (a ≤ b)).map .int)
  | _ => none
def bMaxValues : List D → Option D
  | [.dict ((k, .int x) :: kvs)] => (intsD (kvs.map (·.2))).map fun l => .int (l.foldl max x)
  | _ => none
def biD : Bi → List D → Option D
  | .len => bLen
  | .abs => bAbs
  | .int => bInt
  | .tuple => bTuple
  | .list => bList
  | .sorted => bSorted
  | .all => bAll
  | .any => bAny
  | .max => bMax
  | .min => bMin
  | .dict => bDict
  | .dictZip => bDictZip
  | .listRange => bListRange
  | .tupleRange => bTupleRange
  | .divmod => bDivmod
  | .isinst t => bIsinst t
  | .lenSet => bLenSet
  | .sortedSet => bSortedSet
  | .maxValues => bMaxValues
  | _ => fun _ => none
def strSplit (a b : Str) : List D := (Txt.split a b).map .str
def meCount : D → List D → Option D
  | .list xs, [x] => if okD x && xs.all okD then some (.int (xs.countP fun y => PyData.eqv y x : Nat)) else none
  | _, _ => none
def meIndex : D → List D → Option D
  | .list xs, [x] => if okD x && xs.all okD then (xs.findIdx? fun y => PyData.eqv y x).map fun (i : Nat) => .int i else none
  | _, _ => none
def meSplit : D → List D → Option D
  | .str a, [.str b] => if decide (0 < b.length) && lim (a.length + 2) then some (.list (strSplit a b)) else none
  | _, _ => none
def meGet2 : D → List D → Option D
  | .dict kvs, [k, x] => if keysOk kvs k then some ((dget kvs k).getD x) else none
  | _, _ => none
def meD : Me → D → List D → Option D
  | .count => meCount
  | .index => meIndex
  | .split => meSplit
  | .get2 => meGet2
  | _ => fun _ _ => none
/-- methods that change an owned object -/
def meAppend (S : Sto) (i : Nat) : List W → Option (W × Sto)
  | [w] => match S[i]?, pd w with
    | some (.lst xs), some x => if decide (xs.length < LIM) then some (.d .none, S.set i (.lst (xs ++ [x]))) else none
    | _, _ => none
  | _ => none
def meExtend (S : Sto) (i : Nat) : List W → Option (W × Sto)
  | [w] => match S[i]?, pd w with
    | some (.lst xs), some (.list ys) => if lim (xs.length + ys.length) then some (.d .none, S.set i (.lst (xs ++ ys))) else none
    | _, _ => none
  | _ => none
def mePop (S : Sto) (i : Nat) : List W → Option (W × Sto)
  | [] => match S[i]? with
    | some (.lst xs) => match xs.getLast? with
      | some x => some (.d x, S.set i (.lst xs.dropLast))
      | none => none
    | _ => none
  | _ => none
def mePop1 (S : Sto) (i : Nat) : List W → Option (W × Sto)
  | [.d (.int j)] => match S[i]? with
    | some (.lst xs) => if decide (0 ≤ j ∧ j < LIM) then (xs[j.toNat]?).map fun x => (.d x, S.set i (.lst (xs.eraseIdx j.toNat))) else none
    | _ => none
  | _ => none
/-- what a method is called on -/
def meTy (m : Me) (S : Sto) (x : W) : Bool := match m with
  | .split => match x with
    | .d (.str _) => true
    | _ => false
  | .get2 => false
  | _ => match rd S x with
    | some (.list _) => true
    | _ => false
def onRef (x : W) (f : Nat → Option (W × Sto)) : Option (W × Sto) := match x with
  | .ref i => f i
  | _ => none
def meW (m : Me) (S : Sto) (x : W) (ws : List W) : Option (W × Sto) := match m with
  | .append => onRef x fun i => meAppend S i ws
  | .extend => onRef x fun i => meExtend S i ws
  | .pop => onRef x fun i => mePop S i ws
  | .pop1 => onRef x fun i => mePop1 S i ws
  | m => ob (rd S x) fun x => ob (pds ws) fun xs => (meD m x xs).map fun z => (.d z, S)
def setIS (S : Sto) (i : Nat) (k v : D) : Option Sto := match S[i]? with
  | some (.lst xs) => match k with
    | .int j => if decide (0 ≤ j ∧ j < xs.length) then some (S.set i (.lst (xs.set j.toNat v))) else none
    | _ => none
  | some (.dct t kvs) => if keyD k && (isTupD k == t) && decide (kvs.length < LIM) then some (S.set i (.dct t (dput kvs k v))) else none
  | _ => none
/-- a look into an owned dict -/
def ownGet (S : Sto) (i : Nat) (k : W) : Option (Option D) := match S[i]? with
  | some (.dct t kvs) => ob (pd k) fun k => if keyD k && (isTupD k == t) then some (dget kvs k) else none
  | _ => none
def isDct (S : Sto) : W → Bool
  | .ref i => match S[i]? with
    | some (.dct _ _) => true
    | _ => false
  | _ => false
def refI : W → Nat
  | .ref i => i
  | _ => 0
/-- what may be sliced: the script, too -/
def rdS (S : Sto) : W → Option D
  | .scr l => some (.list (l.map .int))
  | w => rd S w
def cmpW (o : CmpOp) (S : Sto) (x y : W) : Option Bool := if isDct S y then (match o with
    | .In => (ownGet S (refI y) x).map fun o => o.isSome
    | .NotIn => (ownGet S (refI y) x).map fun o => !o.isSome
    | _ => none) else ob (rd S x) fun x => ob (rd S y) fun y => cmpD o x y
def subW (S : Sto) (x y : W) : Option D := if isDct S x then ob (ownGet S (refI x) y) id else ob (rd S x) fun x => ob (pd y) fun y => subD x y
/-- the module's constants -/
def strD (s : String) : D := .str (Str.ofString s)
def wordsD : List D := ["all", "back", "book", "bright", "case", "chance", "colour", "cut", "draw", "first", "game", "in", "none", "of", "once", "open", "out", "paint", "place", "proper", "quit", "rule", "short", "single", "take", "tie", "two", "undo", "way", "web", "win", "yes"].map strD
def GV (x : Str) : Option D :=
  if x = "LETTERS" then some (strD "abcdefghijklmnopqrstuvwxyz") else if x = "MOST_LETTERS" then some (.int 8) else if x = "WORDS" then some (.tuple wordsD)
  else if x = "LEAST_PLACES" then some (.int 2) else if x = "MOST_PLACES" then some (.int 6) else if x = "MOST_TIES" then some (.int 9) else if x = "MOST_COLOUR" then some (.int 8)
  else if x = "BRIGHT" then some (strD "bright") else if x = "SHORT" then some (strD "short") else if x = "PROPER" then some (strD "proper") else if x = "SINGLE" then some (strD "single")
  else if x = "KINDS" then some (.tuple [strD "bright", strD "short", strD "proper", strD "single"]) else if x = "MOST_FIRM" then some (.int 6) else if x = "MOST_MENDED" then some (.int 7) else none
/-- the parts of an instance -/
def attD (x : D) (f : Str) : Option D := match x with
  | .dict [(.list [], .str c), (.str a, .tuple [p, t])] => if c = "Web" && a = "all_told" then (if f = "places" then some p else if f = "ties" then some t else if f = "parts" then some (.tuple [p, t]) else none) else none
  | _ => none
/-- C(..): a new instance, its __init__ run on it -/
def mkI (call : Call) (f : Nat) (c : Str) (ws : List W) (S : Sto) : Option (W × Sto) := bd (call f (.ref S.length :: ws) (S ++ [.ins c []])) fun r S' => match r, S'[S.length]? with
  | .d .none, some (.ins c [(f, x)]) => some (.d (instD c [(f, x)]), S'.take S.length)
  | _, _ => none
/-- dict([(x, []) for x in ..]): new owned lists -/
def freshDW (x : W) (S : Sto) : Option (W × Sto) := match x with
  | .d (.tuple xs) => ob (strsD xs) fun l => if decide (l.Nodup) && decide (l.length ≤ 1000) then some (.drefs (l.zipIdx.map fun p => (p.1, S.length + p.2)), S ++ List.replicate l.length (.lst [])) else none
  | _ => none
def dictW (x : W) (S : Sto) : Option (W × Sto) := match x with
  | .d (.list xs) => ob (pairsD xs) fun ps => if decide (ps.length ≤ 1000) && ps.all (fun p => !isTupD p.1) then some (.d (.dict (dmake ps)), S) else none
  | _ => none
def subRW (x y : W) (S : Sto) : Option (W × Sto) := match x, y with
  | .drefs l, .d (.str k) => (l.find? fun p => decide (p.1 = k)).map fun p => (.ref p.2, S)
  | _, _ => none
def tb (m : Option (W × Sto)) : Option (Bool × Sto) := bd m fun x S => match x with
  | .d (.bool b) => some (b, S)
  | _ => none
def minKey (x : D) : D := .tuple [.int (0 - ((lenD x).getD 0 : Nat)), x]
def minKeys (xs : List D) : Option (List D) := xs.mapM fun x => (lenD x).map fun n => .tuple [.int (0 - (n : Int)), x]
def sortKeyLen (xs : List D) : Option (List D) := xs.mapM fun x => (lenD x).map fun n => .tuple [.int n, x]
def bdD (m : Option (W × Sto)) (f : D → Sto → Option (W × Sto)) : Option (W × Sto) := bd m fun w S => ob (rd S w) fun x => f x S

section
variable (call : Call)
mutual
noncomputable def evE : E → Env1 → Sto → Option (W × Sto)
  | .v i, e, S => (slot e i).map fun w => (w, S)
  | .k x, _, S => some (.d x, S)
  | .g x, _, S => (GV x).map fun y => (.d y, S)
  | .fn f, _, S => some (.d (fnD f), S)
  | .bin o a b, e, S => bd (evE a e S) fun x S => bd (evE b e S) fun y S => ob (rd S x) fun x => ob (rd S y) fun y => (binD o x y).map fun z => (.d z, S)
  | .neg a, e, S => bd (evE a e S) fun x S => match x with
    | .d (.int i) => some (.d (.int (-i)), S)
    | _ => none
  | .nt a, e, S => bd (tb (evE a e S)) fun b S => some (.d (.bool (!b)), S)
  | .and a b, e, S => bd (evE a e S) fun x S => match x with
    | .d (.bool true) => evE b e S
    | .d (.bool false) => some (.d (.bool false), S)
    | _ => none
  | .or a b, e, S => bd (evE a e S) fun x S => match x with
    | .d (.bool false) => evE b e S
    | .d (.bool true) => some (.d (.bool true), S)
    | _ => none
  | .ite t a b, e, S => bd (tb (evE t e S)) fun c S => match c with
    | true => evE a e S
    | false => evE b e S
  | .cmp o a b, e, S => bd (evE a e S) fun x S => bd (evE b e S) fun y S => (cmpW o S x y).map fun z => (.d (.bool z), S)
  | .chn o o' a b c, e, S => bd (evE a e S) fun x S => bd (evE b e S) fun y S => ob (rd S x) fun x => ob (pd y) fun y' => ob (cmpD o x y') fun z => match z with
    | true => bd (evE c e S) fun w S => ob (rd S w) fun w => (cmpD o' y' w).map fun z => (.d (.bool z), S)
    | false => some (.d (.bool false), S)
  | .tup es, e, S => bd (evEs es e S) fun ws S => ob (pds ws) fun xs => if lim xs.length then some (.d (.tuple xs), S) else none
  | .lst es, e, S => bd (evEs es e S) fun ws S => ob (pds ws) fun xs => if lim xs.length then some (.d (.list xs), S) else none
  | .own es, e, S => bd (evEs es e S) fun ws S => ob (pds ws) fun xs => if lim xs.length then freshI S (.lst xs) else none
  | .dic0 t, _, S => freshI S (.dct t [])
  | .dic1 a b, e, S => bd (evE a e S) fun x S => bd (evE b e S) fun y S => ob (pd x) fun x => ob (pd y) fun y => if keyA x then freshI S (.dct false [(x, y)]) else none
  | .sub a i, e, S => bd (evE a e S) fun x S => bd (evE i e S) fun y S => match x, y with
    | .refs l, .d (.int j) => ob (ixD l.length j) fun j => (l[j]?).map fun r => (.ref r, S)
    | .scr l, .d (.int j) => ob (ixD l.length j) fun j => (l[j]?).map fun r => (.d (.int r), S)
    | x, y => (subW S x y).map fun z => (.d z, S)
  | .slc a lo hi, e, S => bd (evE a e S) fun x S => bd (evO lo e S) fun i S => bd (evO hi e S) fun j S => ob (rdS S x) fun x => (slcD x i j).map fun z => (.d z, S)
  | .rev a, e, S => bd (evE a e S) fun x S => ob (pd x) fun x => (revD x).map fun z => (.d z, S)
  | .att a f, e, S => bd (evE a e S) fun x S => ob (pd x) fun x => (attD x f).map fun z => (.d z, S)
  | .call f es, e, S => bd (evEs es e S) fun ws S => if noClo ws then call f ws S else none
  | .callK f es, e, S => bd (evEs es e S) fun ws S => if noClo ws then call f ws.reverse S else none
  | .make f c es, e, S => bd (evEs es e S) fun ws S => if noClo ws then mkI call f c ws S else none
  | .makeK f c es, e, S => bd (evEs es e S) fun ws S => if noClo ws then mkI call f c ws.reverse S else none
  | .callV i es, e, S => ob (slot e i) fun w => bd (evEs es e S) fun ws S => if noClo ws then callV call w ws S else none
  | .callL f es l cs, e, S => bd (evEs es e S) fun ws S => if noClo ws then (ob (caps e cs) fun xs => if xs.all capD then call f (ws ++ [.clo l xs]) S else none) else none
  | .bi b es, e, S => bd (evEs es e S) fun ws S => match b, ws with
    | .len, [.refs l] => some (.d (.int l.length), S)
    | .len, [.scr l] => some (.d (.int l.length), S)
    | b, ws => ob (ws.mapM (rd S)) fun xs => (biD b xs).map fun z => (.d z, S)
  | .me m a es, e, S => bd (evE a e S) fun x S => if meTy m S x then bd (evEs es e S) fun ws S => meW m S x ws else none
  | .ownList a, e, S => bd (evE a e S) fun x S => match x with
    | .d (.list xs) => freshI S (.lst xs)
    | .d (.tuple xs) => freshI S (.lst xs)
    | _ => none
  | .srt a, e, S => bd (evE a e S) fun x S => ob (rd S x) fun x => match x with
    | .list xs => ob (sortKeyLen xs) fun ks => if sortOk ks && xs.all tupA then some (.d (.list (xs.mergeSort (dataLe false fun x => .tuple [.int ((lenD x).getD 0), x]))), S) else none
    | _ => none
  | .minK a, e, S => bd (evE a e S) fun x S => ob (rd S x) fun x => match x with
    | .list (y :: ys) => ob (minKeys (y :: ys)) fun ks => if minOk ks then some (.d (ys.foldl (fun b z => if dataLt (minKey z) (minKey b) then z else b) y), S) else none
    | _ => none
  | .lc elt (.mk t it ifs) own, e, S => bd (evI it e S) fun xs S => bd (lcR (fun w => asgT (wipe1 e own) t w) (fun e S => evO' ifs e S) (fun e S => evE elt e S) xs S) fun ws S => (mkL ws).map fun w => (w, S)
  | .lc2 elt (.mk t it ifs) (.mk t2 it2 ifs2) own, e, S => bd (evI it e S) fun xs S => bd (lcR2 (fun w => asgT (wipe1 e own) t w) (fun e1 S => bd (evO' ifs e1 S) fun b S => match b with
      | true => bd (evI it2 e1 S) fun ys S => lcR (fun w => asgT e1 t2 w) (fun e S => evO' ifs2 e S) (fun e S => evE elt e S) ys S
      | false => some ([], S)) xs S) fun ws S => (mkL ws).map fun w => (w, S)
  | .frz i, e, S => match slot e i with
    | some (.ref j) => match S[j]? with
      | some (.lst xs) => some (.d (.list xs), S.set j .dead)
      | _ => none
    | some (.d x) => some (.d x, S)
    | _ => none
  | .freshD i a, e, S => bd (evE a e S) fun x S => if i < e.length then freshDW x S else none
  | .dictOf a, e, S => bd (evE a e S) dictW
  | .subR a i, e, S => bd (evE a e S) fun x S => bd (evE i e S) fun y S => subRW x y S
noncomputable def evEs : Es → Env1 → Sto → Option (List W × Sto)
  | .nil, _, S => some ([], S)
  | .cons a r, e, S => bd (evE a e S) fun x S => bd (evEs r e S) fun xs S => some (x :: xs, S)
  | .star a r, e, S => bd (evE a e S) fun x S => match x with
    | .d (.tuple ys) => bd (evEs r e S) fun xs S => some (ys.map .d ++ xs, S)
    | .d (.list ys) => bd (evEs r e S) fun xs S => some (ys.map .d ++ xs, S)
    | _ => none
noncomputable def evO : Eo → Env1 → Sto → Option (Option D × Sto)
  | .no, _, S => some (none, S)
  | .so a, e, S => bd (evE a e S) fun x S => match x with
    | .d (.int i) => some (some (.int i), S)
    | _ => none
noncomputable def evO' : Eo → Env1 → Sto → Option (Bool × Sto)
  | .no, _, S => some (true, S)
  | .so a, e, S => tb (evE a e S)
noncomputable def evI : It → Env1 → Sto → Option (List D × Sto)
  | .e a, e, S => bd (evE a e S) fun x S => match x with
    | .d (.list xs) => some (xs, S)
    | .d (.tuple xs) => some (xs, S)
    | .d (.str z) => some (z.cps.toList.map fun c => .str ⟨#[c]⟩, S)
    | _ => none
  | .r1 a, e, S => bd (evE a e S) fun x S => match x with
    | .d (.int j) => if small62 j then some (rangeL 0 j, S) else none
    | _ => none
  | .r2 a b, e, S => bd (evE a e S) fun x S => bd (evE b e S) fun y S => match x, y with
    | .d (.int i), .d (.int j) => if small62 i && small62 j then some (rangeL i j, S) else none
    | _, _ => none
  | .zip a b, e, S => bd (evE a e S) fun x S => bd (evE b e S) fun y S => match x, y with
    | .d (.tuple xs), .d (.tuple ys) => some ((xs.zip ys).map fun p => .tuple [p.1, p.2], S)
    | .d (.list xs), .d (.list ys) => some ((xs.zip ys).map fun p => .tuple [p.1, p.2], S)
    | _, _ => none
  | .enum a, e, S => bd (evE a e S) fun x S => match x with
    | .d (.tuple xs) => some ((xs.zipIdx).map fun p => .tuple [.int p.2, p.1], S)
    | _ => none
end
variable (fu : Option Nat)
mutual
noncomputable def exT : T → Env1 → Sto → Option ((Fl × Env1) × Sto)
  | .asg t a, e, S => bd (evE call a e S) fun w S => ob (asgT e t w) fun e => some ((.nx, e), S)
  | .par l es, e, S => bd (evEs call es e S) fun ws S => ob (asgW e l ws) fun e => some ((.nx, e), S)
  | .setI a i b, e, S => bd (evE call b e S) fun x S => bd (evE call a e S) fun r S => bd (evE call i e S) fun k S => match r with
    | .ref n => ob (pd k) fun k => ob (pd x) fun x => ob (setIS S n k x) fun S => some ((.nx, e), S)
    | _ => none
  | .setIT a i j b, e, S => bd (evE call b e S) fun x S => match x with
    | .d (.tuple [x, y]) => bd (evE call a e S) fun r S => bd (evE call i e S) fun k S => match r with
      | .ref n => ob (pd k) fun k => ob (setIS S n k x) fun S => ob (asg1 e j (.d y)) fun e => some ((.nx, e), S)
      | _ => none
    | _ => none
  | .setF a f b, e, S => bd (evE call b e S) fun x S => bd (evE call a e S) fun r S => match r with
    | .ref n => match S[n]?, pd x with
      | some (.ins c []), some x => some ((.nx, e), S.set n (.ins c [(f, x)]))
      | _, _ => none
    | _ => none
  | .ex a, e, S => bd (evE call a e S) fun _ S => some ((.nx, e), S)
  | .ret a, e, S => bd (evE call a e S) fun w S => some ((.rt w, e), S)
  | .retN, e, S => some ((.rt (.d .none), e), S)
  | .ite t a b, e, S => bd (tb (evE call t e S)) fun c S => match c with
    | true => exTs a e S
    | false => exTs b e S
  | .for t it b, e, S => bd (evI call it e S) fun xs S => forR (fun w e => asgT e t w) (fun e S => exTs b e S) xs e S
  | .whl t b, e, S => match fu with
    | some n => whlR (fun e S => tb (evE call t e S)) (fun e S => exTs b e S) n e S
    | none => whlC (fun e S => tb (evE call t e S)) (fun e S => exTs b e S) e S
  | .pass, e, S => some ((.nx, e), S)
  | .never, _, _ => none
noncomputable def exTs : Ts → Env1 → Sto → Option ((Fl × Env1) × Sto)
  | .nil, e, S => some ((.nx, e), S)
  | .cons t r, e, S => bd (exT t e S) fun p S => match p with
    | (.nx, e) => exTs r e S
    | p => some (p, S)
end
/-- what a def hands back: an own object made within is frozen, or kept -/
def handBack (fd : FnD) (n : Nat) (w : W) (S : Sto) : Option (W × Sto) := match fd.keep with
  | true => some (w, S)
  | false => match w with
    | .d x => some (.d x, S.take n)
    | .ref i => if n ≤ i then (match S[i]? with
        | some (.lst xs) => some (.d (.list xs), S.take n)
        | some (.dct _ kvs) => if kvs.all fun p => keyD p.1 then some (.d (.dict kvs), S.take n) else none
        | _ => none) else none
    | _ => none
noncomputable def runF (fd : FnD) (ws : List W) (S : Sto) : Option (W × Sto) := if ws.length = fd.np then (bd (exTs call fu fd.body (ws.map some ++ List.replicate (fd.N.length - fd.np) none) S) fun p S' => match p with
  | (.rt w, _) => handBack fd S.length w S'
  | (.nx, _) => handBack fd S.length (.d .none) S'
  | _ => none) else none
end
noncomputable def callN (FN : Nat → Option FnD) (fu : Option Nat) : Nat → Call
  | 0 => fun _ _ _ => none
  | n + 1 => fun f ws S => ob (FN f) fun fd => match fd.nat with
    | some g => ob (pds ws) fun xs => (g xs).map fun y => (.d y, S)
    | none => runF (callN FN fu n) fu fd ws S
end RW
set_option Elab.async false
set_option linter.all false
set_option maxRecDepth 100000
set_option maxHeartbeats 2000000
/-! the interpreter's values and store against the layer's abstract heap -/
namespace RW
open PySem PySem.W PyProof.Rows L2

/-- what is known of the module -/
structure DC where
  K : PySem.W.Frag
  cls : Str → Option Addr
  fns : Int → Option Addr
  T : List (Addr × Str) := []
abbrev Ow := Addr → Prop
def kD : Key → D
  | .inl i => .int i
  | .inr x => .str x
mutual
inductive Dn (C : DC) (O : Ow) (H : Hp) : V → D → Prop
  | non : Dn C O H .non .none
  | bl (b : Bool) : Dn C O H (.bl b) (.bool b)
  | int (i : Int) : Dn C O H (.int i) (.int i)
  | str (x : Str) : Dn C O H (.str x) (.str x)
  | list {a vs xs} : ¬ O a → H a = some (.lst vs) → DnA C O H vs xs → Dn C O H (.ref a) (.list xs)
  | tupH {a vs xs} : H a = some (.tup vs) → DnA C O H vs xs → Dn C O H (.ref a) (.tuple xs)
  | tupK {a vs xs} : SqT C.K (fun _ => none) a vs → 4 ≤ xs.length → DnA C O H vs xs → Dn C O H (.ref a) (.tuple xs)
  | dicK {a} {kvs : List (Key × V)} {xs : List (D × D)} : ¬ O a → H a = some (.dK kvs) → xs.map (·.1) = kvs.map (fun p => kD p.1) → DnA C O H (kvs.map (·.2)) (xs.map (·.2)) → Dn C O H (.ref a) (.dict xs)
  | dicT {a} {kvs : List (List Key × V)} {xs : List (D × D)} : ¬ O a → H a = some (.dT kvs) → xs.map (·.1) = kvs.map (fun p => .tuple (p.1.map kD)) → DnA C O H (kvs.map (·.2)) (xs.map (·.2)) → Dn C O H (.ref a) (.dict xs)
  | ins {a c A dx} {f : Str} {v : V} {x : D} : ¬ O a → C.cls c = some A → H a = some (.ins A dx [(f, v)]) → Dn C O H v x → Dn C O H (.ref a) (.dict [(.list [], .str c), (.str f, x)])
  | fn {a n} : C.fns n = some a → Dn C O H (.ref a) (.dict [(.list [.none], .int n)])
inductive DnA (C : DC) (O : Ow) (H : Hp) : List V → List D → Prop
  | nil : DnA C O H [] []
  | cons {v vs x xs} : Dn C O H v x → DnA C O H vs xs → DnA C O H (v :: vs) (x :: xs)
end

section
variable {C : DC} {O O' : Ow} {H H' : Hp}
theorem DnA.length : ∀ {vs : List V} {xs : List D}, DnA C O H vs xs → vs.length = xs.length
  | _, _, .nil => rfl
  | _, _, .cons _ t => by rw [List.length_cons, List.length_cons, DnA.length t]
theorem DnA.append : ∀ {vs ws : List V} {xs ys : List D}, DnA C O H vs xs → DnA C O H ws ys → DnA C O H (vs ++ ws) (xs ++ ys)
  | _, _, _, _, .nil, h => h
  | _, _, _, _, .cons a t, h => .cons a (DnA.append t h)
theorem DnA.get : ∀ {vs : List V} {xs : List D} {i : Nat} {x : D}, DnA C O H vs xs → xs[i]? = some x → ∃ v, vs[i]? = some v ∧ Dn C O H v x
  | _, _, _, _, .nil, e => by simp at e
  | _, _, 0, _, .cons h _, e => by
    simp only [List.getElem?_cons_zero, Option.some.injEq] at e
    subst e
    exact ⟨_, rfl, h⟩
  | _, _, i + 1, x, .cons _ t, e => by
    obtain ⟨v, h1, h2⟩ := DnA.get (i := i) (x := x) t (by simpa using e)
    exact ⟨v, by simpa using h1, h2⟩
theorem DnA.get' : ∀ {vs : List V} {xs : List D} {i : Nat} {v : V}, DnA C O H vs xs → vs[i]? = some v → ∃ x, xs[i]? = some x ∧ Dn C O H v x
  | _, _, _, _, .nil, e => by simp at e
  | _, _, 0, _, .cons h _, e => by
    simp only [List.getElem?_cons_zero, Option.some.injEq] at e
    subst e
    exact ⟨_, rfl, h⟩
  | _, _, i + 1, v, .cons _ t, e => by
    obtain ⟨x, h1, h2⟩ := DnA.get' (i := i) (v := v) t (by simpa using e)
    exact ⟨x, by simpa using h1, h2⟩
theorem DnA.take : ∀ {vs : List V} {xs : List D} (n : Nat), DnA C O H vs xs → DnA C O H (vs.take n) (xs.take n)
  | _, _, 0, _ => by simpa using DnA.nil
  | _, _, _ + 1, .nil => .nil
  | _, _, n + 1, .cons h t => .cons h (DnA.take n t)
theorem DnA.drop : ∀ {vs : List V} {xs : List D} (n : Nat), DnA C O H vs xs → DnA C O H (vs.drop n) (xs.drop n)
  | _, _, 0, h => h
  | _, _, _ + 1, .nil => .nil
  | _, _, n + 1, .cons _ t => DnA.drop n t
theorem DnA.reverse {vs : List V} {xs : List D} (h : DnA C O H vs xs) : DnA C O H vs.reverse xs.reverse := by
  induction vs generalizing xs with
  | nil => cases h; exact .nil
  | cons v vs ih =>
    cases h with
    | cons h t =>
      rw [List.reverse_cons, List.reverse_cons]
      exact (ih t).append (.cons h .nil)
theorem DnA.set {v : V} {x : D} (h : Dn C O H v x) : ∀ {vs : List V} {xs : List D} (i : Nat), DnA C O H vs xs → DnA C O H (vs.set i v) (xs.set i x)
  | _, _, _, .nil => .nil
  | _, _, 0, .cons _ t => .cons h t
  | _, _, i + 1, .cons q t => .cons q (DnA.set h i t)
theorem DnA.dropLast {vs : List V} {xs : List D} (h : DnA C O H vs xs) : DnA C O H vs.dropLast xs.dropLast := by
  rw [List.dropLast_eq_take, List.dropLast_eq_take, h.length]
  exact h.take _
theorem DnA.eraseIdx : ∀ {vs : List V} {xs : List D} (i : Nat), DnA C O H vs xs → DnA C O H (vs.eraseIdx i) (xs.eraseIdx i)
  | _, _, _, .nil => .nil
  | _, _, 0, .cons _ t => t
  | _, _, i + 1, .cons q t => .cons q (DnA.eraseIdx i t)
theorem DnA.rep {vs : List V} {xs : List D} (h : DnA C O H vs xs) : ∀ k : Nat, DnA C O H (List.replicate k vs).flatten (List.replicate k xs).flatten
  | 0 => .nil
  | k + 1 => by
    rw [List.replicate_succ, List.replicate_succ, List.flatten_cons, List.flatten_cons]
    exact h.append (h.rep k)
theorem DnA.of_all {f : Nat → V} {g : Nat → D} (h : ∀ i, Dn C O H (f i) (g i)) : ∀ l : List Nat, DnA C O H (l.map f) (l.map g)
  | [] => .nil
  | i :: l => .cons (h i) (DnA.of_all h l)

/-- the heap grew: what was tracked and is not owned here is as it was -/
structure Nxt (O : Ow) (φ : List Addr) (H : Hp) (O' : Ow) (φ' : List Addr) (H' : Hp) : Prop where
  keep : ∀ a o, H a = some o → (a ∉ φ ∨ ¬ O a) → (∀ ps, o ≠ .tbl ps) → H' a = some o
  own : ∀ a, O' a → O a ∨ H a = none
  back : ∀ a, O a → a ∉ φ → O' a
  gone : ∀ a o, H a = some o → ∃ o', H' a = some o'
  pre : φ <+: φ'
  frs : ∀ a, a ∈ φ' → a ∈ φ ∨ H a = none
  tbl : ∀ a ps, H a = some (.tbl ps) → ∃ more, H' a = some (.tbl (ps ++ more))

mutual
theorem Dn.mono' (k : ∀ a o, H a = some o → ¬ O a → (∀ ps, o ≠ .tbl ps) → H' a = some o) (ow : ∀ a o, H a = some o → O' a → O a) (kt : ∀ a vs, H a = some (.tup vs) → H' a = some (.tup vs)) : ∀ {v : V} {x : D}, Dn C O H v x → Dn C O' H' v x
  | _, _, .non => .non
  | _, _, .bl b => .bl b
  | _, _, .int i => .int i
  | _, _, .str x => .str x
  | _, _, .list (a := a) n q t => .list (fun z => n (ow _ _ q z)) (k _ _ q n (fun _ z => by cases z)) (DnA.mono' k ow kt t)
  | _, _, .tupH q t => .tupH (kt _ _ q) (DnA.mono' k ow kt t)
  | _, _, .tupK q l t => .tupK q l (DnA.mono' k ow kt t)
  | _, _, .dicK n q e t => .dicK (fun z => n (ow _ _ q z)) (k _ _ q n (fun _ z => by cases z)) e (DnA.mono' k ow kt t)
  | _, _, .dicT n q e t => .dicT (fun z => n (ow _ _ q z)) (k _ _ q n (fun _ z => by cases z)) e (DnA.mono' k ow kt t)
  | _, _, .ins n c q t => .ins (fun z => n (ow _ _ q z)) c (k _ _ q n (fun _ z => by cases z)) (Dn.mono' k ow kt t)
  | _, _, .fn e => .fn e
theorem DnA.mono' (k : ∀ a o, H a = some o → ¬ O a → (∀ ps, o ≠ .tbl ps) → H' a = some o) (ow : ∀ a o, H a = some o → O' a → O a) (kt : ∀ a vs, H a = some (.tup vs) → H' a = some (.tup vs)) : ∀ {vs : List V} {xs : List D}, DnA C O H vs xs → DnA C O' H' vs xs
  | _, _, .nil => .nil
  | _, _, .cons h t => .cons (Dn.mono' k ow kt h) (DnA.mono' k ow kt t)
end

/-! ### the store -/
/-- an owned object as the heap has it -/
def MoOk (C : DC) (O : Ow) (H : Hp) (a : Addr) : MO → Prop
  | .lst xs => O a ∧ ∃ vs, H a = some (.lst vs) ∧ DnA C O H vs xs
  | .dct false kvs => O a ∧ ∃ vs : List (Key × V), H a = some (.dK vs) ∧ kvs.map (·.1) = vs.map (fun p => kD p.1) ∧ DnA C O H (vs.map (·.2)) (kvs.map (·.2))
  | .dct true kvs => O a ∧ ∃ vs : List (List Key × V), H a = some (.dT vs) ∧ kvs.map (·.1) = vs.map (fun p => .tuple (p.1.map kD)) ∧ DnA C O H (vs.map (·.2)) (kvs.map (·.2))
  | .ins c fs => O a ∧ ∃ A dx fvs, C.cls c = some A ∧ H a = some (.ins A dx fvs) ∧ fvs.map (·.1) = fs.map (·.1) ∧ DnA C O H (fvs.map (·.2)) (fs.map (·.2))
  | .dead => True
structure Sim (C : DC) (O : Ow) (φ : List Addr) (H : Hp) (S : Sto) : Prop where
  len : φ.length = S.length
  nd : φ.Nodup
  at_ : ∀ (i : Nat) (mo : MO) (a : Addr), S[i]? = some mo → φ[i]? = some a → MoOk C O H a mo
  ow : ∀ a, O a → ∃ o, H a = some o ∧ (∀ vs, o ≠ .tup vs) ∧ (∀ ps, o ≠ .tbl ps) ∧ ∀ f, o ≠ .ext f
  tr : ∀ a, a ∈ φ → ∃ o, H a = some o
  tb : LamX.Tabs C.T H
end
section
variable {C : DC} {O O' O1 O2 : Ow} {H H' H1 H2 : Hp} {φ φ' φ1 φ2 : List Addr} {S S' : Sto}
theorem Nxt.refl : Nxt O φ H O φ H := ⟨fun _ _ h _ _ => h, fun _ h => .inl h, fun _ h _ => h, fun _ o h => ⟨o, h⟩, List.prefix_refl _, fun _ h => .inl h, fun _ ps h => ⟨#[], by rw [h]; simp⟩⟩
theorem Nxt.trans (ow : ∀ a, O a → ∃ o, H a = some o) (a : Nxt O φ H O1 φ1 H1) (b : Nxt O1 φ1 H1 O2 φ2 H2) : Nxt O φ H O2 φ2 H2 where
  keep := fun c o h n t => by
    have h1 := a.keep c o h n t
    refine b.keep c o h1 ?_ t
    rcases n with n | n
    · refine .inl fun z => ?_
      rcases a.frs c z with z | z
      · exact n z
      · rw [z] at h; cases h
    · refine .inr fun z => ?_
      rcases a.own c z with z | z
      · exact n z
      · rw [z] at h; cases h
  own := fun c h => by
    rcases b.own c h with z | z
    · exact a.own c z
    · refine .inr ?_
      cases e : H c with
      | none => rfl
      | some o =>
        obtain ⟨o', e'⟩ := a.gone c o e
        rw [z] at e'; cases e'
  back := fun c h n => by
    refine b.back c (a.back c h n) fun z => ?_
    rcases a.frs c z with z | z
    · exact n z
    · obtain ⟨o, e⟩ := ow c h
      rw [z] at e; cases e
  gone := fun c o h => by
    obtain ⟨o1, h1⟩ := a.gone c o h
    exact b.gone c o1 h1
  pre := a.pre.trans b.pre
  frs := fun c h => by
    rcases b.frs c h with z | z
    · exact a.frs c z
    · refine .inr ?_
      cases e : H c with
      | none => rfl
      | some o =>
        obtain ⟨o', e'⟩ := a.gone c o e
        rw [z] at e'; cases e'
  tbl := fun c ps h => by
    obtain ⟨m1, e1⟩ := a.tbl c ps h
    obtain ⟨m2, e2⟩ := b.tbl c _ e1
    exact ⟨m1 ++ m2, by rw [e2, Array.append_assoc]⟩
theorem Sim.tupNo (sm : Sim C O φ H S) {a : Addr} {vs : List V} (h : H a = some (.tup vs)) : ¬ O a := fun z => by
  obtain ⟨o, e, n, _⟩ := sm.ow a z
  rw [h] at e; cases e
  exact n vs rfl
theorem Dn.mono (sm : Sim C O φ H S) (n : Nxt O φ H O' φ' H') {v : V} {x : D} (h : Dn C O H v x) : Dn C O' H' v x :=
  Dn.mono' (fun a o h1 h2 h3 => n.keep a o h1 (.inr h2) h3) (fun a o h1 h2 => (n.own a h2).elim id fun z => by rw [z] at h1; cases h1)
    (fun a vs h1 => n.keep a _ h1 (.inr (sm.tupNo h1)) fun _ z => by cases z) h
theorem DnA.mono (sm : Sim C O φ H S) (n : Nxt O φ H O' φ' H') {vs : List V} {xs : List D} (h : DnA C O H vs xs) : DnA C O' H' vs xs :=
  DnA.mono' (fun a o h1 h2 h3 => n.keep a o h1 (.inr h2) h3) (fun a o h1 h2 => (n.own a h2).elim id fun z => by rw [z] at h1; cases h1)
    (fun a vs h1 => n.keep a _ h1 (.inr (sm.tupNo h1)) fun _ z => by cases z) h

/-- the heap grew by new objects alone -/
structure Gr (H H' : Hp) : Prop where
  keep : ∀ a o, H a = some o → H' a = some o
theorem Gr.refl : Gr H H := ⟨fun _ _ h => h⟩
theorem Gr.trans (a : Gr H H1) (b : Gr H1 H2) : Gr H H2 := ⟨fun c o h => b.keep c o (a.keep c o h)⟩
theorem Gr.new {p : Addr} {o : HO} (h : H p = none) : Gr H (upd H p o) := ⟨fun c u e => by rw [upd_ne (ne_of_none e h)]; exact e⟩
theorem Gr.nxt (g : Gr H H') : Nxt O φ H O φ H' := ⟨fun a o h _ _ => g.keep a o h, fun _ h => .inl h, fun _ h _ => h, fun a o h => ⟨o, g.keep a o h⟩, List.prefix_refl _, fun _ h => .inl h, fun a ps h => ⟨#[], by rw [g.keep a _ h]; simp⟩⟩
theorem Dn.gr (g : Gr H H') {v : V} {x : D} (h : Dn C O H v x) : Dn C O H' v x := Dn.mono' (fun a o h1 _ _ => g.keep a o h1) (fun _ _ _ z => z) (fun a vs h1 => g.keep a _ h1) h
theorem DnA.gr (g : Gr H H') {vs : List V} {xs : List D} (h : DnA C O H vs xs) : DnA C O H' vs xs := DnA.mono' (fun a o h1 _ _ => g.keep a o h1) (fun _ _ _ z => z) (fun a vs h1 => g.keep a _ h1) h
/-- fewer owned ones -/
theorem Dn.less (l : ∀ a, O' a → O a) {v : V} {x : D} (h : Dn C O H v x) : Dn C O' H v x := Dn.mono' (fun a o h1 _ _ => h1) (fun a _ _ z => l a z) (fun a vs h1 => h1) h
theorem DnA.less (l : ∀ a, O' a → O a) {vs : List V} {xs : List D} (h : DnA C O H vs xs) : DnA C O' H vs xs := DnA.mono' (fun a o h1 _ _ => h1) (fun a _ _ z => l a z) (fun a vs h1 => h1) h
theorem MoOk.gr (g : Gr H H') {a : Addr} {mo : MO} (h : MoOk C O H a mo) : MoOk C O H' a mo := by
  cases mo with
  | lst xs => obtain ⟨o, vs, e, t⟩ := h; exact ⟨o, vs, g.keep _ _ e, t.gr g⟩
  | dct b xs => cases b <;> (obtain ⟨o, vs, e, k, t⟩ := h; exact ⟨o, vs, g.keep _ _ e, k, t.gr g⟩)
  | ins c fs => obtain ⟨o, A, dx, fvs, e1, e2, k, t⟩ := h; exact ⟨o, A, dx, fvs, e1, g.keep _ _ e2, k, t.gr g⟩
  | dead => exact True.intro
theorem Sim.gr (sm : Sim C O φ H S) (g : Gr H H') : Sim C O φ H' S := ⟨sm.len, sm.nd, fun i mo a h1 h2 => (sm.at_ i mo a h1 h2).gr g, fun a h => by
  obtain ⟨o, e, n, t⟩ := sm.ow a h
  exact ⟨o, g.keep a o e, n, t⟩, fun a h => by
  obtain ⟨o, e⟩ := sm.tr a h
  exact ⟨o, g.keep a o e⟩, sm.tb.ext g.keep⟩
theorem tabs_keep {T : List (Addr × Str)} {H H' : Hp} (t : LamX.Tabs T H) (k : ∀ b ps, H b = some (.tbl ps) → H' b = some (.tbl ps)) (k2 : ∀ b f, H b = some (.ext f) → H' b = some (.ext f)) : LamX.Tabs T H' := fun p hp => by
  obtain ⟨ps, h1, h2, h3⟩ := t p hp
  refine ⟨ps, k _ _ h1, h2, fun pos cv hc => ?_⟩
  obtain ⟨c, e1, e2⟩ := h3 pos cv hc
  exact ⟨c, e1, k2 _ _ e2⟩

/-! ### the interpreter's values -/
/-- a lambda (told by the context) -/
abbrev Clo := Addr → Nat → List D → Prop
def WOk (C : DC) (L : Clo) (O : Ow) (φ : List Addr) (H : Hp) (v : V) : W → Prop
  | .d x => Dn C O H v x
  | .ref i => ∃ a, φ[i]? = some a ∧ v = .ref a
  | .refs l => ∃ (a : Addr) (as : List Addr), v = .ref a ∧ ¬ O a ∧ H a = some (.lst (as.map V.ref)) ∧ l.map (fun i => φ[i]?) = as.map some
  | .clo k cs => ∃ a, v = .ref a ∧ L a k cs
  | .drefs l => ∃ (a : Addr) (as : List Addr), v = .ref a ∧ ¬ O a ∧ H a = some (.dK ((l.zip as).map fun p => (.inr p.1.1, V.ref p.2))) ∧ l.map (fun p => φ[p.2]?) = as.map some
  | .scr ns => ∃ a, v = .ref a ∧ (SqL C.K (fun _ => none) a (ns.map V.int) ∨ ∃ u, ¬ O a ∧ H a = some u ∧ (u = .lst (ns.map V.int) ∨ ∃ o, u = .frz o (.lst (ns.map V.int))))
def WsOk (C : DC) (L : Clo) (O : Ow) (φ : List Addr) (H : Hp) : List V → List W → Prop
  | [], [] => True
  | v :: vs, w :: ws => WOk C L O φ H v w ∧ WsOk C L O φ H vs ws
  | _, _ => False
structure EnvOk (C : DC) (L : Clo) (O : Ow) (φ : List Addr) (H : Hp) (σ : L2.St) (env : Env1) : Prop where
  len : env.length = σ.length
  at_ : ∀ (i : Nat) (w : W), slot env i = some w → ∃ v, σ[i]? = some (some v) ∧ WOk C L O φ H v w
theorem WOk.mono {L : Clo} (sm : Sim C O φ H S) (n : Nxt O φ H O' φ' H') {v : V} {w : W} (h : WOk C L O φ H v w) : WOk C L O' φ' H' v w := by
  have at_ : ∀ (i : Nat) (a : Addr), φ[i]? = some a → φ'[i]? = some a := fun i a e => by
    obtain ⟨t, e2⟩ := n.pre
    rw [← e2, List.getElem?_append_left (List.getElem?_eq_some_iff.mp e).1]
    exact e
  cases w with
  | d x => exact Dn.mono sm n h
  | ref i => obtain ⟨a, e, r⟩ := h; exact ⟨a, at_ i a e, r⟩
  | refs l =>
    obtain ⟨a, as, r, no, e, m⟩ := h
    refine ⟨a, as, r, fun z => ?_, n.keep _ _ e (.inr no) (fun _ z => by cases z), ?_⟩
    · rcases n.own a z with z | z
      · exact no z
      · rw [z] at e; cases e
    · clear e r no
      induction l generalizing as with
      | nil => cases as with
        | nil => rfl
        | cons b bs => cases m
      | cons i l ih => cases as with
        | nil => cases m
        | cons b bs =>
          simp only [List.map_cons, List.cons.injEq] at m ⊢
          exact ⟨at_ i b m.1, ih bs m.2⟩
  | clo k cs => exact h
  | drefs l =>
    obtain ⟨a, as, r, no, e, m⟩ := h
    refine ⟨a, as, r, fun z => ?_, n.keep _ _ e (.inr no) (fun _ z => by cases z), ?_⟩
    · rcases n.own a z with z | z
      · exact no z
      · rw [z] at e; cases e
    · clear e r no
      induction l generalizing as with
      | nil => cases as with
        | nil => rfl
        | cons b bs => cases m
      | cons i l ih => cases as with
        | nil => cases m
        | cons b bs =>
          simp only [List.map_cons, List.cons.injEq] at m ⊢
          exact ⟨at_ i.2 b m.1, ih bs m.2⟩
  | scr ns =>
    obtain ⟨a, r, q⟩ := h
    refine ⟨a, r, ?_⟩
    rcases q with q | ⟨o, no, q, y⟩
    · exact .inl q
    · refine .inr ⟨o, fun z => ?_, n.keep _ _ q (.inr no) (fun _ z => by
        rcases y with y | ⟨_, y⟩ <;> (rw [y] at z; cases z)), y⟩
      rcases n.own a z with z | z
      · exact no z
      · rw [z] at q; cases q
theorem WsOk.mono {L : Clo} (sm : Sim C O φ H S) (n : Nxt O φ H O' φ' H') : ∀ {vs : List V} {ws : List W}, WsOk C L O φ H vs ws → WsOk C L O' φ' H' vs ws
  | [], [], _ => True.intro
  | _ :: _, _ :: _, h => ⟨h.1.mono sm n, WsOk.mono sm n h.2⟩
  | [], _ :: _, h => h
  | _ :: _, [], h => h
theorem EnvOk.mono {L : Clo} {σ : L2.St} {env : Env1} (sm : Sim C O φ H S) (n : Nxt O φ H O' φ' H') (h : EnvOk C L O φ H σ env) : EnvOk C L O' φ' H' σ env :=
  ⟨h.len, fun i w e => by
    obtain ⟨v, e1, e2⟩ := h.at_ i w e
    exact ⟨v, e1, e2.mono sm n⟩⟩
theorem WsOk.length {L : Clo} : ∀ {vs : List V} {ws : List W}, WsOk C L O φ H vs ws → vs.length = ws.length
  | [], [], _ => rfl
  | _ :: _, _ :: _, h => by rw [List.length_cons, List.length_cons, WsOk.length h.2]
  | [], _ :: _, h => h.elim
  | _ :: _, [], h => h.elim
theorem WsOk.pds {L : Clo} : ∀ {vs : List V} {ws : List W} {xs : List D}, WsOk C L O φ H vs ws → pds ws = some xs → DnA C O H vs xs
  | [], [], xs, _, e => by
    simp only [RW.pds, Option.some.injEq] at e
    subst e
    exact .nil
  | v :: vs, w :: ws, xs, h, e => by
    cases w with
    | d x =>
      simp only [RW.pds] at e
      cases q : RW.pds ws with
      | none => rw [q] at e; cases e
      | some ys =>
        rw [q] at e
        simp only [Option.map_some, Option.some.injEq] at e
        subst e
        exact .cons h.1 (WsOk.pds h.2 q)
    | _ => simp [RW.pds] at e
  | [], _ :: _, _, h, _ => h.elim
  | _ :: _, [], _, h, _ => h.elim

/-- what may be read: data, or an owned list or dict -/
inductive Rb (C : DC) (O : Ow) (H : Hp) : V → D → Prop
  | d {v x} : Dn C O H v x → Rb C O H v x
  | lst {a vs xs} : O a → H a = some (.lst vs) → DnA C O H vs xs → Rb C O H (.ref a) (.list xs)
  | dcK {a} {kvs : List (Key × V)} {xs : List (D × D)} : O a → H a = some (.dK kvs) → xs.map (·.1) = kvs.map (fun p => kD p.1) → DnA C O H (kvs.map (·.2)) (xs.map (·.2)) → Rb C O H (.ref a) (.dict xs)
  | dcT {a} {kvs : List (List Key × V)} {xs : List (D × D)} : O a → H a = some (.dT kvs) → xs.map (·.1) = kvs.map (fun p => .tuple (p.1.map kD)) → DnA C O H (kvs.map (·.2)) (xs.map (·.2)) → Rb C O H (.ref a) (.dict xs)
theorem WOk.rd {L : Clo} (sm : Sim C O φ H S) {v : V} {w : W} {x : D} (h : WOk C L O φ H v w) (e : rd S w = some x) : Rb C O H v x := by
  cases w with
  | d y =>
    simp only [RW.rd, Option.some.injEq] at e
    subst e
    exact .d h
  | ref i =>
    obtain ⟨a, ea, rfl⟩ := h
    simp only [RW.rd] at e
    cases q : S[i]? with
    | none => rw [q] at e; cases e
    | some mo =>
      rw [q] at e
      have m := sm.at_ i mo a q ea
      cases mo with
      | lst l =>
        simp only [Option.some.injEq] at e
        subst e
        obtain ⟨o, vs, e1, t⟩ := m
        exact .lst o e1 t
      | dct b l =>
        simp only [Option.some.injEq] at e
        subst e
        cases b with
        | false => obtain ⟨o, vs, e1, k, t⟩ := m; exact .dcK o e1 k t
        | true => obtain ⟨o, vs, e1, k, t⟩ := m; exact .dcT o e1 k t
      | ins c fs => cases e
      | dead => cases e
  | refs l => cases e
  | clo k cs => cases e
  | scr ns => cases e
  | drefs l => cases e
end
end RW
set_option Elab.async false
set_option linter.all false
set_option maxRecDepth 100000
set_option maxHeartbeats 2000000
namespace RW
open PySem PySem.W PyProof.Rows L2
variable {X : Cx} {C : DC} {L : Clo}

/-! ### data of the abstract heap read as data of the heap -/
section
variable {pins : List (Addr × Obj)} {σ : L2.St} {H : Hp} {s : Shared} {O : Ow}
mutual
theorem Dn.reads (I : Inv X pins σ H s) (hK : C.K = X.K) : ∀ {v : V} {x : D} {u : Value}, Dn C O H v x → RelV v u → x.plain = true → ∃ as, Reads s.heap u x as
  | _, _, _, .non, r, _ => by cases r; exact ⟨_, .none⟩
  | _, _, _, .bl b, r, _ => by cases r; exact ⟨_, .bool b⟩
  | _, _, _, .int i, r, _ => by obtain ⟨t, rfl⟩ := r; exact ⟨_, .int i t⟩
  | _, _, _, .str x, r, _ => by obtain ⟨t, rfl⟩ := r; exact ⟨_, .str x t⟩
  | _, _, _, .list (a := a) n q t, r, p => by
    cases r
    obtain ⟨its, rv, ⟨o, m, e, hc, _, hd⟩, _⟩ := I.list (X := X) (.inl (.inl q))
    obtain ⟨as, h⟩ := DnA.reads I hK t rv (by simpa [PyData.plain] using p)
    exact ⟨_, .list e hc hd (by simpa using h)⟩
  | _, _, _, .tupH (a := a) q t, r, p => by
    cases r
    obtain ⟨its, rv, ⟨o, e, hc, m, hd⟩, _⟩ := I.tuple (X := X) (.inl (.inl q))
    obtain ⟨as, h⟩ := DnA.reads I hK t rv (by simpa [PyData.plain] using p)
    exact ⟨_, .tuple e hc hd (by simpa using h)⟩
  | _, _, _, .tupK (a := a) (vs := vs) q _ t, r, p => by
    cases r
    have q' : SqT X.K H a vs := by
      rcases q with (z | ⟨_, z⟩) | z
      · cases z
      · cases z
      · exact .inr (hK ▸ z)
    obtain ⟨its, rv, ⟨o, e, hc, m, hd⟩, _⟩ := I.tuple (X := X) q'
    obtain ⟨as, h⟩ := DnA.reads I hK t rv (by simpa [PyData.plain] using p)
    exact ⟨_, .tuple e hc hd (by simpa using h)⟩
  | _, _, _, .dicK _ _ _ _, _, p => by simp [PyData.plain] at p
  | _, _, _, .dicT _ _ _ _, _, p => by simp [PyData.plain] at p
  | _, _, _, .ins _ _ _ _, _, p => by simp [PyData.plain] at p
  | _, _, _, .fn _, _, p => by simp [PyData.plain] at p
theorem DnA.reads (I : Inv X pins σ H s) (hK : C.K = X.K) : ∀ {vs : List V} {xs : List D} {us : List Value}, DnA C O H vs xs → Vals vs us → PyData.plainAll xs = true → ∃ as, ReadsAll s.heap us xs as
  | _, _, _, .nil, r, _ => by cases r; exact ⟨_, .nil⟩
  | _, _, _, .cons h t, r, p => by
    cases r with
    | cons r1 r2 =>
      simp only [PyData.plainAll, Bool.and_eq_true] at p
      obtain ⟨as, h1⟩ := Dn.reads I hK h r1 p.1
      obtain ⟨bs, h2⟩ := DnA.reads I hK t r2 p.2
      exact ⟨_, .cons h1 h2⟩
end
theorem Rb.reads (I : Inv X pins σ H s) (hK : C.K = X.K) {v : V} {x : D} {u : Value} (h : Rb C O H v x) (r : RelV v u) (p : x.plain = true) : ∃ as, Reads s.heap u x as := by
  cases h with
  | d h => exact h.reads I hK r p
  | @lst a vs xs o e t =>
    cases r
    obtain ⟨its, rv, ⟨o, m, e, hc, _, hd⟩, _⟩ := I.list (X := X) (.inl (.inl e))
    obtain ⟨as, h⟩ := DnA.reads I hK t rv (by simpa [PyData.plain] using p)
    exact ⟨_, .list e hc hd (by simpa using h)⟩
  | dcK _ _ _ _ => simp [PyData.plain] at p
  | dcT _ _ _ _ => simp [PyData.plain] at p
/-- a list that may be read -/
theorem Rb.list {v : V} {xs : List D} (h : Rb C O H v (.list xs)) : ∃ a vs, v = .ref a ∧ H a = some (.lst vs) ∧ DnA C O H vs xs := by
  cases h with
  | d h => cases h with
    | list n q t => exact ⟨_, _, rfl, q, t⟩
  | lst o e t => exact ⟨_, _, rfl, e, t⟩
theorem Rb.tuple (hK : C.K = X.K) {v : V} {xs : List D} (h : Rb C O H v (.tuple xs)) : ∃ a vs, v = .ref a ∧ SqT X.K H a vs ∧ DnA C O H vs xs := by
  cases h with
  | d h => cases h with
    | tupH q t => exact ⟨_, _, rfl, .inl (.inl q), t⟩
    | tupK q l t =>
      rcases q with (z | ⟨_, z⟩) | z
      · cases z
      · cases z
      · exact ⟨_, _, rfl, .inr (hK ▸ z), t⟩
theorem Rb.int {v : V} {i : Int} (h : Rb C O H v (.int i)) : v = .int i := by
  cases h with
  | d h => cases h; rfl
theorem Rb.str {v : V} {i : Str} (h : Rb C O H v (.str i)) : v = .str i := by
  cases h with
  | d h => cases h; rfl
theorem Rb.bool {v : V} {i : Bool} (h : Rb C O H v (.bool i)) : v = .bl i := by
  cases h with
  | d h => cases h; rfl
theorem Rb.nn {v : V} (h : Rb C O H v .none) : v = .non := by
  cases h with
  | d h => cases h; rfl
end
theorem lim_le {n : Nat} (h : lim n = true) : n ≤ sizeLine := by
  have h1 : n ≤ LIM := of_decide_eq_true h
  have h2 : LIM = 16000000 := rfl
  rw [sizeLine_eq]
  omega
theorem lim_lt {n : Nat} (h : decide (n < LIM) = true) : n < sizeLine := by
  have h1 : n < LIM := of_decide_eq_true h
  have h2 : LIM = 16000000 := rfl
  rw [sizeLine_eq]
  omega

/-! ### operations on data -/
/-- f on two values that read as x, y gives a value of z; new objects at the most -/
def OpD (X : Cx) (C : DC) (f : Value → Value → Sem Value) (x y z : D) : Prop :=
  ∀ (pins : List (Addr × Obj)) (s : Shared) (σ : L2.St) (H : Hp) (O : Ow) (vx vy : V) (v u : Value), Inv X pins σ H s → Rb C O H vx x → Rb C O H vy y → RelV vx v → RelV vy u →
    (∀ a, O a → ∃ o, H a = some o) → wpAny (model X.prog X.w) X.A (f v u) (fun r s' => ∃ vz H', Inv X pins σ H' s' ∧ Gr H H' ∧ RelV vz r ∧ Dn C O H' vz z) X.xe s
/-- from a rule of the layer -/
theorem OpD.of {f : Value → Value → Sem Value} {r : R2} {x y z : D} (ho : OpR X f r)
    (h : ∀ (H : Hp) (O : Ow) (vx vy : V), (∀ a, O a → ∃ o, H a = some o) → Rb C O H vx x → Rb C O H vy y → r vx vy H fun v H' => Gr H H' ∧ Dn C O H' v z) : OpD X C f x y z := by
  intro pins s σ H O vx vy v u I hx hy rx ry ow
  refine thn (ho pins s σ H vx vy v u _ I rx ry (h H O vx vy ow hx hy)) fun w s' ⟨vz, H', I', rz, g, d⟩ => ⟨vz, H', I', g, rz, d⟩
theorem bigOk_or {i j : Int} (h : (bigOk i || bigOk j) = true) : CMul i j := by
  rcases Bool.or_eq_true_iff.mp h with h | h
  · exact .inl (of_decide_eq_true h)
  · exact .inr (of_decide_eq_true h)
theorem opD_add_int {i j : Int} : OpD X C (binaryOp .Add) (.int i) (.int j) (.int (i + j)) := .of op_add fun H O vx vy ow hx hy => ⟨i, j, hx.int, hy.int, .refl, .int _⟩
theorem opD_sub_int {i j : Int} : OpD X C (binaryOp .Sub) (.int i) (.int j) (.int (i - j)) := .of op_sub fun H O vx vy ow hx hy => ⟨i, j, hx.int, hy.int, .refl, .int _⟩
theorem opD_mul_int {i j : Int} (h : (bigOk i || bigOk j) = true) : OpD X C (binaryOp .Mult) (.int i) (.int j) (.int (i * j)) := .of op_mul fun H O vx vy ow hx hy => ⟨i, j, hx.int, hy.int, bigOk_or h, .refl, .int _⟩
theorem opD_div_int {i j : Int} (h : 0 < j ∧ j < 1073741824) : OpD X C (binaryOp .FloorDiv) (.int i) (.int j) (.int (i / j)) := .of op_fdiv fun H O vx vy ow hx hy => ⟨i, j, hx.int, hy.int, h, .refl, .int _⟩
theorem opD_mod_int {i j : Int} (h : 0 < j) : OpD X C (binaryOp .Mod) (.int i) (.int j) (.int (i % j)) := .of op_mod fun H O vx vy ow hx hy => ⟨i, j, hx.int, hy.int, h, .refl, .int _⟩
theorem opD_pow_int {i j : Int} (h : 0 ≤ j ∧ j ≤ 1000 ∧ i.natAbs ≤ 1000) : OpD X C (binaryOp .Pow) (.int i) (.int j) (.int (i ^ j.toNat)) := .of op_pow fun H O vx vy ow hx hy => ⟨i, j, hx.int, hy.int, ⟨h.1, by omega, by
  have : (1000 : Nat) < 2 ^ 64 := by decide
  omega⟩, .refl, .int _⟩
theorem opD_add_str {a b : Str} (h : lim (a.length + b.length) = true) : OpD X C (binaryOp .Add) (.str a) (.str b) (.str (a ++ b)) := .of op_add_str fun H O vx vy ow hx hy => ⟨a, b, hx.str, hy.str, lim_le h, .refl, .str _⟩
theorem Dn.newList {O : Ow} {H : Hp} {p : Addr} {vs : List V} {xs : List D} (hp : H p = none) (hO : ∀ a, O a → ∃ o, H a = some o) (t : DnA C O H vs xs) : Dn C O (upd H p (.lst vs)) (.ref p) (.list xs) :=
  .list (fun z => by obtain ⟨o, e⟩ := hO p z; rw [hp] at e; cases e) upd_same (t.gr (.new hp))
theorem Dn.newTup {O : Ow} {H : Hp} {p : Addr} {vs : List V} {xs : List D} (hp : H p = none) (t : DnA C O H vs xs) : Dn C O (upd H p (.tup vs)) (.ref p) (.tuple xs) := .tupH upd_same (t.gr (.new hp))
theorem opD_add_list {xs ys : List D} (h : lim (xs.length + ys.length) = true) : OpD X C (binaryOp .Add) (.list xs) (.list ys) (.list (xs ++ ys)) := .of op_cat fun H O vx vy ow hx hy => by
  obtain ⟨a, vs, rfl, e, t⟩ := hx.list
  obtain ⟨b, ws, rfl, e2, t2⟩ := hy.list
  refine ⟨a, b, vs, ws, rfl, rfl, e, e2, by rw [t.length, t2.length]; exact lim_le h, fun p hp => ⟨.new hp, Dn.newList hp ow (t.append t2)⟩⟩
theorem Rb.tup' {O : Ow} {H : Hp} {v : V} {xs : List D} (h : Rb C O H v (.tuple xs)) : Dn C O H v (.tuple xs) := by
  cases h with
  | d h => exact h
theorem opD_add_tup (hK : C.K = X.K) {xs ys : List D} (h : lim (xs.length + ys.length) = true) : OpD X C (binaryOp .Add) (.tuple xs) (.tuple ys) (.tuple (xs ++ ys)) := .of op_catA fun H O vx vy ow hx hy => by
  obtain ⟨a, vs, rfl, e, t⟩ := hx.tuple hK
  obtain ⟨b, ws, rfl, e2, t2⟩ := hy.tuple hK
  have z1 : vs = [] → xs = [] := fun z => List.eq_nil_of_length_eq_zero (by rw [← t.length, z]; rfl)
  have z2 : ws = [] → ys = [] := fun z => List.eq_nil_of_length_eq_zero (by rw [← t2.length, z]; rfl)
  refine ⟨a, b, vs, ws, rfl, rfl, e, e2, by rw [t.length, t2.length]; exact lim_le h, fun z => ?_, fun _ z => ?_, fun _ _ p hp => ⟨.new hp, Dn.newTup hp (t.append t2)⟩⟩
  · rw [z1 z]
    exact ⟨.refl, hy.tup'⟩
  · rw [z2 z, List.append_nil]
    exact ⟨.refl, hx.tup'⟩
theorem opD_mul_list {xs : List D} {j : Int} (h : 0 ≤ j ∧ j ≤ 1000 ∧ xs.length ≤ 1000) : OpD X C (binaryOp .Mult) (.list xs) (.int j) (.list (List.replicate j.toNat xs).flatten) := .of op_rep fun H O vx vy ow hx hy => by
  obtain ⟨a, vs, rfl, e, t⟩ := hx.list
  have hj := hy.int
  refine ⟨a, j, vs, rfl, hj, e, by omega, by omega, ?_, fun p hp => ⟨.new hp, Dn.newList hp ow (t.rep _)⟩⟩
  rw [t.length, sizeLine_eq]
  have := Nat.mul_le_mul h.2.2 (show j.toNat ≤ 1000 by omega)
  omega
theorem foldl_arr {α : Type} (a : Array α) : ∀ (n : Nat) (b : Array α), (List.replicate n a).foldl (· ++ ·) b = b ++ ((List.replicate n a.toList).flatten).toArray
  | 0, b => by simp
  | n + 1, b => by
    rw [List.replicate_succ, List.foldl_cons, foldl_arr a n, List.replicate_succ, List.flatten_cons]
    apply Array.toList_inj.mp
    simp [Array.append_assoc]
theorem len_rep {α : Type} (xs : List α) (n : Nat) : (List.replicate n xs).flatten.length = n * xs.length := by
  simp
theorem opD_mul_str {a : Str} {j : Int} (h : 2 ≤ j ∧ j ≤ 1000 ∧ a.length ≤ 1000 ∧ a.length ≠ 0) : OpD X C (binaryOp .Mult) (.str a) (.int j) (.str (strMul a j.toNat)) := by
  intro pins s σ H O vx vy v u I hx hy rx ry ow
  have e1 := hx.str
  have e2 := hy.int
  subst e1; subst e2
  obtain ⟨t, rfl⟩ := rx
  obtain ⟨t', rfl⟩ := ry
  obtain ⟨h1, h2, h3, h4⟩ := h
  have hn : ¬ j < 1 := by omega
  have hj : (j == 1 || a.length == 0) = false := by
    rw [beq_eq_false_iff_ne.mpr (show j ≠ 1 by omega), beq_eq_false_iff_ne.mpr h4]; rfl
  have hl : a.length * j.toNat ≤ 1000 * 1000 := Nat.mul_le_mul h3 (by omega)
  have e : (⟨(List.replicate j.toNat a.cps).foldl (· ++ ·) #[]⟩ : Str) = strMul a j.toNat := by
    unfold strMul
    rw [foldl_arr]
    simp
  have ln : (strMul a j.toNat).length = a.length * j.toNat := by
    unfold strMul Str.length
    rw [List.size_toArray, len_rep, Array.length_toList, Nat.mul_comm]
  refine P.mul_str (by rw [decide_eq_false (by omega), decide_eq_false (by omega)]; rfl) (fun _ _ => ?_) (fun _ _ => ?_) ?_
  · have : (1000 : Int) ≤ (2 ^ 63 - 1) / j := by
      rw [Int.le_ediv_iff_mul_le (by omega)]
      have : 1000 * j ≤ 1000 * 1000 := Int.mul_le_mul_of_nonneg_left h2 (by decide)
      omega
    omega
  · unfold PySem.Builtin.Str.tooLong
    rw [sizeLine_eq]
    exact decide_eq_false (by omega)
  · rw [if_neg hn, hj, if_neg Bool.false_ne_true, e]
    show _ ∧ _
    refine ⟨by rw [ln, sizeLine_eq]; omega, .str _, H, I.tok _, .refl, ⟨_, rfl⟩, .str _⟩
theorem tuple_mul1 (l : Addr) (items : Array Value) (n : Nat) (dd : Option Addr) (sl : Array (Option Value)) (u : Tok) :
    Meets (Builtin.«tuple.__mul__» ⟨[.ref l, .int 1 u], []⟩) (fun _ R s => s.heap.get? l = some { cls := .type "tuple", dict := dd, data := .seq items n, slots := sl } ∧
      R (.ok (.ret (Value.ref l))) s) :=
  .of_wp fun prog w A R s h => by
    obtain ⟨hp, g, d, tk, os⟩ := s
    obtain ⟨hl, h⟩ := h
    have f1 := AutoSeq1.idx_int
    have c1 : (items.isEmpty || (1 : Int) == 1) = true := by simp
    wp_walk using wpAny_loadPart' hl
    repeat (first
      | (refine wpAny_ite_false (decide_eq_false (by decide)) ?_; wp_walk using wpAny_loadPart' hl)
      | (refine wpAny_ite_true (decide_eq_true c1) ?_; wp_walk using wpAny_loadPart' hl))
    exact ⟨_, rfl, h⟩
theorem opD_mul_tup (hK : C.K = X.K) {xs : List D} {j : Int} (h : 1 ≤ j ∧ j ≤ 1000 ∧ xs.length ≤ 1000 ∧ xs ≠ []) : OpD X C (binaryOp .Mult) (.tuple xs) (.int j) (.tuple (List.replicate j.toNat xs).flatten) := by
  by_cases hj : j = 1
  · subst hj
    intro pins s σ H O vx vy v u I hx hy rx ry ow
    have e2 := hy.int
    subst e2
    obtain ⟨l, vs, rfl, hT, t⟩ := hx.tuple hK
    cases rx
    obtain ⟨t', rfl⟩ := ry
    obtain ⟨its, r, ⟨⟨cls, dd, data, sl⟩, ho, hc, n, hd⟩, hs⟩ := I.tuple hT
    simp only at hc hd
    subst hc hd
    refine wpAny_binaryOp_repeat_ref (T := "tuple") (U := "int") (by decide) ⟨_, ho, rfl⟩ (fun s' => typeIs_int s' 1 t') noFill_tuple_mul F.fills_int_mul F.slot_int_rmul repeat_tuple F.slot_int_index.lookup
      (call_meets F.slot_int_rmul (typeIs_int s 1 t') F.entry_int_rmul (F.args_int_rmul_2 _ _) (int_rmul_tuple 1 t' l its.toArray n dd sl)
        ⟨ho, rfl, ⟨_, ho, rfl⟩, call_meets F.slot_tuple_mul ⟨_, ho, rfl⟩ F.entry_tuple_mul (F.args_tuple_mul_2 _ _) (tuple_mul1 l its.toArray n dd sl t') ⟨ho, ?_⟩⟩)
    refine ⟨.ref l, H, I, .refl, rfl, ?_⟩
    have : (List.replicate (1 : Int).toNat xs).flatten = xs := by simp
    rw [this]
    exact hx.tup'
  · refine .of op_repT fun H O vx vy ow hx hy => ?_
    obtain ⟨a, vs, rfl, e, t⟩ := hx.tuple hK
    have hj := hy.int
    refine ⟨a, j, vs, rfl, hj, e, fun z => h.2.2.2 (List.eq_nil_of_length_eq_zero (by rw [← t.length, z]; rfl)), by omega, by omega, by rw [t.length]; exact h.2.2.1, fun p hp => ⟨.new hp, Dn.newTup hp (t.rep _)⟩⟩
/-- an operator by a function on data -/
def rB (C : DC) (f : D → D → Option D) : R2 := fun vx vy H Q => ∃ (O : Ow) (x y z : D), (∀ a, O a → ∃ o, H a = some o) ∧ Rb C O H vx x ∧ Rb C O H vy y ∧ f x y = some z ∧ ∀ vz H', Gr H H' → Dn C O H' vz z → Q vz H'
/-- for dn: O is kept in the result -/
theorem rB.of {f : D → D → Option D} {g : Value → Value → Sem Value} (h : ∀ x y z, f x y = some z → OpD X C g x y z) : OpR X g (rB C f) := by
  intro pins s σ H vx vy v u Q I rx ry ⟨O, x, y, z, ow, hx, hy, e, q⟩
  exact thn (h x y z e pins s σ H O vx vy v u I hx hy rx ry ow) fun r s' ⟨vz, H', I', g, rz, d⟩ => ⟨vz, H', I', rz, q vz H' g d⟩
theorem op_binD (hK : C.K = X.K) (o : Operator) : OpR X (binaryOp o) (rB C (binD o)) := rB.of fun x y z e => by
  unfold binD at e
  split at e
  · cases e; exact opD_add_int
  · split at e
    · cases e; exact opD_add_str (by assumption)
    · cases e
  · split at e
    · cases e; exact opD_add_list (by assumption)
    · cases e
  · split at e
    · cases e; exact opD_add_tup hK (by assumption)
    · cases e
  · cases e; exact opD_sub_int
  · split at e
    · cases e; exact opD_mul_int (by assumption)
    · cases e
  · split at e
    · rename_i h
      cases e; exact opD_mul_str (of_decide_eq_true h)
    · cases e
  · split at e
    · rename_i h
      cases e; exact opD_mul_tup hK (of_decide_eq_true h)
    · cases e
  · split at e
    · rename_i h
      cases e; exact opD_mul_list (of_decide_eq_true h)
    · cases e
  · split at e
    · rename_i h
      cases e; exact opD_div_int (of_decide_eq_true h)
    · cases e
  · split at e
    · rename_i h
      cases e; exact opD_mod_int (of_decide_eq_true h)
    · cases e
  · split at e
    · rename_i h
      cases e; exact opD_pow_int (of_decide_eq_true h)
    · cases e
  · cases e
end RW
set_option Elab.async false
set_option linter.all false
set_option maxRecDepth 100000
set_option maxHeartbeats 2000000
namespace RW
open PySem PySem.W PyProof.Rows L2
variable {X : Cx} {C : DC} {L : Clo}
/-! ### comparisons -/
theorem okD_and {x : D} (h : okD x = true) : x.plain = true ∧ x.depth ≤ 60 := by
  unfold okD at h
  rw [Bool.and_eq_true] at h
  exact ⟨h.1, of_decide_eq_true h.2⟩
theorem plainAll_of {xs : List D} (h : xs.all okD = true) : PyData.plainAll xs = true := by
  induction xs with
  | nil => rfl
  | cons x xs ih =>
    rw [List.all_cons, Bool.and_eq_true] at h
    simp only [PyData.plainAll, Bool.and_eq_true]
    exact ⟨(okD_and h.1).1, ih h.2⟩
theorem opD_eq (hK : C.K = X.K) (hu : X.A.units + 64 < cLine) {x y : D} (h : (okD x && okD y) = true) : OpD X C (compareOp .Eq) x y (.bool (PyData.eqv x y)) := by
  intro pins s σ H O vx vy v u I hx hy rx ry ow
  rw [Bool.and_eq_true] at h
  obtain ⟨as, r1⟩ := hx.reads I hK rx (okD_and h.1).1
  obtain ⟨bs, r2⟩ := hy.reads I hK ry (okD_and h.2).1
  have := (okD_and h.1).2
  exact PySem.SeqAt.eq_plain r1 r2 (okD_and h.1).1 (okD_and h.2).1 (by omega) ⟨.bl _, H, I, .refl, rfl, .bl _⟩
theorem opD_ne (hK : C.K = X.K) (hu : X.A.units + 64 < cLine) {x y : D} (h : (okD x && okD y) = true) : OpD X C (compareOp .NotEq) x y (.bool (!PyData.eqv x y)) := by
  intro pins s σ H O vx vy v u I hx hy rx ry ow
  rw [Bool.and_eq_true] at h
  obtain ⟨as, r1⟩ := hx.reads I hK rx (okD_and h.1).1
  obtain ⟨bs, r2⟩ := hy.reads I hK ry (okD_and h.2).1
  have := (okD_and h.1).2
  exact PySem.SeqAt.ne_plain r1 r2 (okD_and h.1).1 (okD_and h.2).1 (by omega) ⟨.bl _, H, I, .refl, rfl, .bl _⟩
theorem ltOk_all {x y : D} (h : ltOk x y = true) : alike x y = true ∧ x ≠ .none ∧ okD x = true ∧ okD y = true := by
  unfold ltOk at h
  simp only [Bool.and_eq_true] at h
  refine ⟨h.1.1.1, ?_, h.1.2, h.2⟩
  intro e
  have := h.1.1.2
  rw [e] at this
  cases this
theorem opD_ord (hK : C.K = X.K) (hu : X.A.units + 64 < cLine) {x y : D} (h : ltOk x y = true) (b : Bool) (o : CmpOp)
    (rule : ∀ (s : Shared) (v u : Value) (as bs : List Addr) (Q : Value → Shared → Prop), Reads s.heap v x as → Reads s.heap u y bs → x ≠ .none → X.A.units + min x.depth y.depth < cLine → Q (.bool b) s → wpAny (model X.prog X.w) X.A (compareOp o v u) Q X.xe s) :
    OpD X C (compareOp o) x y (.bool b) := by
  intro pins s σ H O vx vy v u I hx hy rx ry ow
  obtain ⟨ha, hn, h1, h2⟩ := ltOk_all h
  obtain ⟨as, r1⟩ := hx.reads I hK rx (okD_and h1).1
  obtain ⟨bs, r2⟩ := hy.reads I hK ry (okD_and h2).1
  have := (okD_and h1).2
  exact rule s v u as bs _ r1 r2 hn (by omega) ⟨.bl _, H, I, .refl, rfl, .bl _⟩
theorem in_lim {xs : List D} {x : D} (hu : X.A.units + 64 < cLine) (h : x.depth ≤ 60) : X.A.units + 1 + min (PyData.depthAll xs) x.depth < cLine := by omega
theorem opD_inL (hK : C.K = X.K) (hu : X.A.units + 64 < cLine) {x : D} {ys : List D} (h : (okD x && ys.all okD) = true) : OpD X C (compareOp .In) x (.list ys) (.bool (ys.any fun y => PyData.eqv y x)) := by
  intro pins s σ H O vx vy v u I hx hy rx ry ow
  rw [Bool.and_eq_true] at h
  obtain ⟨as, r1⟩ := hx.reads I hK rx (okD_and h.1).1
  obtain ⟨bs, r2⟩ := hy.reads I hK ry (by simp only [PyData.plain]; exact plainAll_of h.2)
  exact PySem.SeqAt.in_list_data r2 r1 (plainAll_of h.2) (okD_and h.1).1 (in_lim hu (okD_and h.1).2) ⟨.bl _, H, I, .refl, rfl, .bl _⟩
theorem opD_notInL (hK : C.K = X.K) (hu : X.A.units + 64 < cLine) {x : D} {ys : List D} (h : (okD x && ys.all okD) = true) : OpD X C (compareOp .NotIn) x (.list ys) (.bool (!ys.any fun y => PyData.eqv y x)) := by
  intro pins s σ H O vx vy v u I hx hy rx ry ow
  rw [Bool.and_eq_true] at h
  obtain ⟨as, r1⟩ := hx.reads I hK rx (okD_and h.1).1
  obtain ⟨bs, r2⟩ := hy.reads I hK ry (by simp only [PyData.plain]; exact plainAll_of h.2)
  exact PySem.SeqAt.notIn_list_data r2 r1 (plainAll_of h.2) (okD_and h.1).1 (in_lim hu (okD_and h.1).2) ⟨.bl _, H, I, .refl, rfl, .bl _⟩
theorem opD_inT (hK : C.K = X.K) (hu : X.A.units + 64 < cLine) {x : D} {ys : List D} (h : (okD x && ys.all okD) = true) : OpD X C (compareOp .In) x (.tuple ys) (.bool (ys.any fun y => PyData.eqv y x)) := by
  intro pins s σ H O vx vy v u I hx hy rx ry ow
  rw [Bool.and_eq_true] at h
  obtain ⟨as, r1⟩ := hx.reads I hK rx (okD_and h.1).1
  obtain ⟨bs, r2⟩ := hy.reads I hK ry (by simp only [PyData.plain]; exact plainAll_of h.2)
  exact PySem.SeqAt.in_tuple_data r2 r1 (plainAll_of h.2) (okD_and h.1).1 (in_lim hu (okD_and h.1).2) ⟨.bl _, H, I, .refl, rfl, .bl _⟩
theorem opD_notInT (hK : C.K = X.K) (hu : X.A.units + 64 < cLine) {x : D} {ys : List D} (h : (okD x && ys.all okD) = true) : OpD X C (compareOp .NotIn) x (.tuple ys) (.bool (!ys.any fun y => PyData.eqv y x)) := by
  intro pins s σ H O vx vy v u I hx hy rx ry ow
  rw [Bool.and_eq_true] at h
  obtain ⟨as, r1⟩ := hx.reads I hK rx (okD_and h.1).1
  obtain ⟨bs, r2⟩ := hy.reads I hK ry (by simp only [PyData.plain]; exact plainAll_of h.2)
  exact PySem.SeqAt.notIn_tuple_data r2 r1 (plainAll_of h.2) (okD_and h.1).1 (in_lim hu (okD_and h.1).2) ⟨.bl _, H, I, .refl, rfl, .bl _⟩
/-! ### dicts -/
theorem eqv_kD (a b : Key) : PyData.eqv (kD a) (kD b) = decide (a = b) := by
  cases a <;> cases b
  · rename_i a b
    show (a == b) = _
    rw [key_ll]
  · rename_i a b
    show false = _
    rw [key_lr]
  · rename_i a b
    show false = _
    rw [key_rl]
  · rename_i a b
    show (a == b) = _
    rw [key_rr]
    rw [Bool.beq_eq_decide_eq]
theorem eqvAll_kD : ∀ (a b : List Key), PyData.eqvAll (a.map kD) (b.map kD) = decide (a = b)
  | [], [] => by simp [PyData.eqvAll]
  | [], b :: bs => by simp [PyData.eqvAll]
  | a :: as, [] => by simp [PyData.eqvAll]
  | a :: as, b :: bs => by
    simp only [List.map_cons, PyData.eqvAll, eqv_kD, eqvAll_kD as bs, List.cons.injEq, Bool.decide_and]
theorem eqv_kT (a b : List Key) : PyData.eqv (.tuple (a.map kD)) (.tuple (b.map kD)) = decide (a = b) := by
  rw [PyData.eqv, eqvAll_kD]
theorem keyA_of {x : D} (h : keyA x = true) : ∃ k : Key, x = kD k := by
  cases x with
  | int i => exact ⟨.inl i, rfl⟩
  | str z => exact ⟨.inr z, rfl⟩
  | _ => cases h
theorem keysA_of : ∀ {xs : List D}, xs.all keyA = true → ∃ ks : List Key, xs = ks.map kD
  | [], _ => ⟨[], rfl⟩
  | x :: xs, h => by
    rw [List.all_cons, Bool.and_eq_true] at h
    obtain ⟨k, rfl⟩ := keyA_of h.1
    obtain ⟨ks, rfl⟩ := keysA_of h.2
    exact ⟨k :: ks, rfl⟩
/-- a key: an int or a text, or a tuple of such -/
theorem keyD_of {x : D} (h : keyD x = true) : (∃ k : Key, x = kD k ∧ isTupD x = false) ∨ ∃ ks : List Key, x = .tuple (ks.map kD) ∧ ks.length ≤ 3 := by
  cases x with
  | int i => exact .inl ⟨.inl i, rfl, rfl⟩
  | str z => exact .inl ⟨.inr z, rfl, rfl⟩
  | tuple xs =>
    have h' : (xs.all keyA && decide (xs.length ≤ 3)) = true := h
    rw [Bool.and_eq_true] at h'
    obtain ⟨ks, rfl⟩ := keysA_of h'.1
    exact .inr ⟨ks, rfl, by simpa using of_decide_eq_true h'.2⟩
  | _ => cases h
theorem Dn.kV {O : Ow} {H : Hp} : ∀ {v : V} {k : Key}, Dn C O H v (kD k) → v = kV k
  | _, .inl i, .int _ => rfl
  | _, .inr x, .str _ => rfl
theorem DnA.kV {O : Ow} {H : Hp} : ∀ {vs : List V} {ks : List Key}, DnA C O H vs (ks.map kD) → vs = ks.map L2.kV
  | [], [], _ => rfl
  | v :: vs, k :: ks, .cons h t => by rw [Dn.kV h, DnA.kV t]; rfl
  | [], k :: ks, t => nomatch t
  | v :: vs, [], t => nomatch t
theorem Dn.keyT {O : Ow} {H : Hp} {v : V} {ks : List Key} (hl : ks.length ≤ 3) (h : Dn C O H v (.tuple (ks.map kD))) : ∃ b, v = .ref b ∧ H b = some (.tup (ks.map L2.kV)) := by
  cases h with
  | tupH q t => exact ⟨_, rfl, by rw [q, DnA.kV t]⟩
  | tupK q l t =>
    rw [List.length_map] at l
    omega
section
variable {κ : Type} [DecidableEq κ] {f : κ → D} {O : Ow} {H : Hp}
theorem dget_rel (hf : ∀ a b, PyData.eqv (f a) (f b) = decide (a = b)) (k : κ) : ∀ {kvs : List (κ × V)} {xs : List (D × D)}, xs.map (·.1) = kvs.map (fun p => f p.1) → DnA C O H (kvs.map (·.2)) (xs.map (·.2)) →
    (dget xs (f k) = none ∧ valV kvs k = none) ∨ ∃ v x, dget xs (f k) = some x ∧ valV kvs k = some v ∧ Dn C O H v x
  | [], [], _, _ => .inl ⟨rfl, rfl⟩
  | [], _ :: _, e, _ => nomatch e
  | _ :: _, [], e, _ => nomatch e
  | (a, v) :: kvs, (b, x) :: xs, e, t => by
    simp only [List.map_cons, List.cons.injEq] at e t
    cases t with
    | cons h t =>
      obtain ⟨rfl, e⟩ := e
      by_cases hk : a = k
      · subst hk
        refine .inr ⟨v, x, ?_, ?_, h⟩
        · unfold dget
          rw [List.find?_cons_of_pos (by rw [hf]; exact decide_eq_true rfl)]; rfl
        · unfold valV
          rw [List.find?_cons_of_pos (by simp)]; rfl
      · have e1 : dget ((f a, x) :: xs) (f k) = dget xs (f k) := by
          unfold dget
          rw [List.find?_cons_of_neg (by rw [hf]; simp [hk])]
        have e2 : valV ((a, v) :: kvs) k = valV kvs k := by
          unfold valV
          rw [List.find?_cons_of_neg (by simp [hk])]
        rw [e1, e2]
        exact dget_rel hf k e t
theorem any_rel (hf : ∀ a b, PyData.eqv (f a) (f b) = decide (a = b)) (k : κ) : ∀ {kvs : List (κ × V)} {xs : List (D × D)}, xs.map (·.1) = kvs.map (fun p => f p.1) → (dget xs (f k)).isSome = kvs.any fun kv => decide (kv.1 = k)
  | [], [], _ => rfl
  | [], _ :: _, e => nomatch e
  | _ :: _, [], e => nomatch e
  | (a, v) :: kvs, (b, x) :: xs, e => by
    simp only [List.map_cons, List.cons.injEq] at e
    obtain ⟨rfl, e⟩ := e
    by_cases hk : a = k
    · subst hk
      unfold dget
      rw [List.find?_cons_of_pos (by rw [hf]; exact decide_eq_true rfl)]
      simp
    · have e1 : dget ((f a, x) :: xs) (f k) = dget xs (f k) := by
        unfold dget
        rw [List.find?_cons_of_neg (by rw [hf]; simp [hk])]
      rw [e1, any_rel hf k e]
      simp [hk]
theorem map_rel (hf : ∀ a b, PyData.eqv (f a) (f b) = decide (a = b)) (k : κ) {w : V} {z : D} (hz : Dn C O H w z) : ∀ {kvs : List (κ × V)} {xs : List (D × D)}, xs.map (·.1) = kvs.map (fun p => f p.1) → DnA C O H (kvs.map (·.2)) (xs.map (·.2)) →
    (xs.map fun p => if PyData.eqv p.1 (f k) then (p.1, z) else p).map (·.1) = (kvs.map fun kv => if kv.1 = k then (kv.1, w) else kv).map (fun p => f p.1) ∧
    DnA C O H ((kvs.map fun kv => if kv.1 = k then (kv.1, w) else kv).map (·.2)) ((xs.map fun p => if PyData.eqv p.1 (f k) then (p.1, z) else p).map (·.2))
  | [], [], _, _ => ⟨rfl, .nil⟩
  | [], _ :: _, e, _ => nomatch e
  | _ :: _, [], e, _ => nomatch e
  | (a, v) :: kvs, (b, x) :: xs, e, t => by
    simp only [List.map_cons, List.cons.injEq] at e t
    cases t with
    | cons h t =>
      obtain ⟨rfl, e⟩ := e
      obtain ⟨i1, i2⟩ := map_rel hf k hz e t
      by_cases hk : a = k
      · subst hk
        simp only [List.map_cons, hf, decide_true, if_true]
        exact ⟨congrArg _ i1, .cons hz i2⟩
      · simp only [List.map_cons, hf, hk, decide_false, if_false, Bool.false_eq_true]
        exact ⟨congrArg _ i1, .cons h i2⟩
theorem dput_rel (hf : ∀ a b, PyData.eqv (f a) (f b) = decide (a = b)) (k : κ) {w : V} {z : D} (hz : Dn C O H w z) {kvs : List (κ × V)} {xs : List (D × D)} (e : xs.map (·.1) = kvs.map (fun p => f p.1)) (t : DnA C O H (kvs.map (·.2)) (xs.map (·.2))) :
    (dput xs (f k) z).map (·.1) = (putK kvs k w).map (fun p => f p.1) ∧ DnA C O H ((putK kvs k w).map (·.2)) ((dput xs (f k) z).map (·.2)) := by
  unfold dput putK
  rw [any_rel hf k e]
  by_cases h : (kvs.any fun kv => decide (kv.1 = k)) = true
  · rw [if_pos h, if_pos h]
    exact map_rel hf k hz e t
  · rw [if_neg h, if_neg h]
    simp only [List.map_append, List.map_cons, List.map_nil]
    exact ⟨by rw [e], t.append (.cons hz .nil)⟩
end
/-- a dict that is no instance -/
theorem Rb.dict {O : Ow} {H : Hp} {v : V} {xs : List (D × D)} (h : Rb C O H v (.dict xs)) (hk : ∀ p ∈ xs, keyD p.1 = true) : ∃ a, v = .ref a ∧
    ((∃ kvs : List (Key × V), H a = some (.dK kvs) ∧ xs.map (·.1) = kvs.map (fun p => kD p.1) ∧ DnA C O H (kvs.map (·.2)) (xs.map (·.2))) ∨
     ∃ kvs : List (List Key × V), H a = some (.dT kvs) ∧ xs.map (·.1) = kvs.map (fun p => .tuple (p.1.map kD)) ∧ DnA C O H (kvs.map (·.2)) (xs.map (·.2))) := by
  cases h with
  | d h => cases h with
    | dicK n q e t => exact ⟨_, rfl, .inl ⟨_, q, e, t⟩⟩
    | dicT n q e t => exact ⟨_, rfl, .inr ⟨_, q, e, t⟩⟩
    | ins n c q t => exact nomatch hk _ List.mem_cons_self
    | fn e => exact nomatch hk _ List.mem_cons_self
  | dcK o q e t => exact ⟨_, rfl, .inl ⟨_, q, e, t⟩⟩
  | dcT o q e t => exact ⟨_, rfl, .inr ⟨_, q, e, t⟩⟩
/-- a look into a dict of one sort of keys -/
theorem Rb.look {O : Ow} {H : Hp} {v w : V} {xs : List (D × D)} {k : D} (h : Rb C O H v (.dict xs)) (hk : Dn C O H w k) (ok : keysOk xs k = true) : ∃ a, v = .ref a ∧
    ((dget xs k = Option.none ∧ DGet H a w Option.none) ∨ ∃ u x, dget xs k = some x ∧ DGet H a w (some u) ∧ Dn C O H u x) := by
  unfold keysOk at ok
  rw [Bool.and_eq_true, Bool.and_eq_true] at ok
  obtain ⟨⟨k1, k2⟩, k3⟩ := ok
  have ne : xs ≠ [] := fun z => by rw [z] at k2; cases k2
  rw [List.all_eq_true] at k3
  obtain ⟨p, hp⟩ : ∃ p, p ∈ xs := by
    cases xs with
    | nil => exact absurd rfl ne
    | cons p r => exact ⟨p, List.mem_cons_self⟩
  have hp' := k3 p hp
  rw [Bool.and_eq_true] at hp'
  obtain ⟨a, rfl, q⟩ := h.dict fun p hp => by
    have := k3 p hp
    rw [Bool.and_eq_true] at this
    exact this.1
  refine ⟨a, rfl, ?_⟩
  rcases q with ⟨kvs, e, m, t⟩ | ⟨kvs, e, m, t⟩
  · have tk : isTupD k = false := by
      have : p.1 ∈ kvs.map (fun p => kD p.1) := by rw [← m]; exact List.mem_map_of_mem hp
      obtain ⟨q, _, e1⟩ := List.mem_map.mp this
      rw [← beq_iff_eq.mp hp'.2, ← e1]
      cases q.1 <;> rfl
    rcases keyD_of k1 with ⟨kk, rfl, _⟩ | ⟨ks, rfl, _⟩
    · have ev := hk.kV
      subst ev
      rcases dget_rel (f := kD) eqv_kD kk m t with ⟨e1, e2⟩ | ⟨u, x, e1, e2, d⟩
      · exact .inl ⟨e1, e2 ▸ DGet.k e⟩
      · exact .inr ⟨u, x, e1, e2 ▸ DGet.k e, d⟩
    · cases tk
  · have tk : isTupD k = true := by
      have : p.1 ∈ kvs.map (fun p => PyData.tuple (p.1.map kD)) := by rw [← m]; exact List.mem_map_of_mem hp
      obtain ⟨q, _, e1⟩ := List.mem_map.mp this
      rw [← beq_iff_eq.mp hp'.2, ← e1]
      rfl
    rcases keyD_of k1 with ⟨kk, rfl, z⟩ | ⟨ks, rfl, l3⟩
    · rw [z] at tk; cases tk
    · obtain ⟨b, rfl, eb⟩ := hk.keyT l3
      rcases dget_rel (f := fun ks : List Key => PyData.tuple (ks.map kD)) eqv_kT ks m t with ⟨e1, e2⟩ | ⟨u, x, e1, e2, d⟩
      · exact .inl ⟨e1, e2 ▸ DGet.t e eb⟩
      · exact .inr ⟨u, x, e1, e2 ▸ DGet.t e eb, d⟩
theorem Rb.dn {O : Ow} {H : Hp} {v : V} {k : D} (h : Rb C O H v k) (hk : keyD k = true) : Dn C O H v k := by
  cases h with
  | d h => exact h
  | lst _ _ _ => cases hk
  | dcK _ _ _ _ => cases hk
  | dcT _ _ _ _ => cases hk
theorem keysOk_key {xs : List (D × D)} {k : D} (h : keysOk xs k = true) : keyD k = true := by
  unfold keysOk at h
  rw [Bool.and_eq_true, Bool.and_eq_true] at h
  exact h.1.1
theorem opD_inD (hu : X.A.units + 64 < cLine) {x : D} {ys : List (D × D)} (h : keysOk ys x = true) : OpD X C (compareOp .In) x (.dict ys) (.bool (dget ys x).isSome) := by
  intro pins s σ H O vx vy v u I hx hy rx ry ow
  obtain ⟨a, rfl, q⟩ := hy.look (hx.dn (keysOk_key h)) h
  cases ry
  rcases q with ⟨e, g⟩ | ⟨w, y, e, g, _⟩
  · rw [e]
    exact d_in (by omega) I g rx fun s' I' => ⟨.bl false, H, I', .refl, rfl, .bl _⟩
  · rw [e]
    exact d_in (by omega) I g rx fun s' I' => ⟨.bl true, H, I', .refl, rfl, .bl _⟩
theorem opD_notInD (hu : X.A.units + 64 < cLine) {x : D} {ys : List (D × D)} (h : keysOk ys x = true) : OpD X C (compareOp .NotIn) x (.dict ys) (.bool (!(dget ys x).isSome)) := by
  intro pins s σ H O vx vy v u I hx hy rx ry ow
  obtain ⟨a, rfl, q⟩ := hy.look (hx.dn (keysOk_key h)) h
  cases ry
  rcases q with ⟨e, g⟩ | ⟨w, y, e, g, _⟩
  · rw [e]
    exact d_notIn (by omega) I g rx fun s' I' => ⟨.bl true, H, I', .refl, rfl, .bl _⟩
  · rw [e]
    exact d_notIn (by omega) I g rx fun s' I' => ⟨.bl false, H, I', .refl, rfl, .bl _⟩
theorem str_one {a : Str} (h : (a.length == 1) = true) : a = ⟨#[a.cps.getD 0 0]⟩ := by
  obtain ⟨c⟩ := a
  have h' : c.size = 1 := beq_iff_eq.mp h
  show Str.mk c = _
  congr 1
  apply Array.ext
  · simp [h']
  · intro i h1 h2
    have : i = 0 := by omega
    subst this
    simp [Array.getD, h1]
theorem opD_inS {a b : Str} (h : (a.length == 1) = true) : OpD X C (compareOp .In) (.str a) (.str b) (.bool (b.cps.toList.contains (a.cps.getD 0 0))) := .of op_in_sign fun H O vx vy ow hx hy => by
  refine ⟨a.cps.getD 0 0, b, by rw [← str_one h]; exact hx.str, hy.str, .refl, ?_⟩
  rw [List.contains_eq_mem]
  exact .bl _
theorem Dn.isN {O : Ow} {H : Hp} {v : V} {x : D} (h : Dn C O H v x) : decide (v = .non) = !notN x := by
  cases h <;> rfl
theorem Rb.isN {O : Ow} {H : Hp} {v : V} {x : D} (h : Rb C O H v x) : decide (v = .non) = !notN x := by
  cases h with
  | d h => exact h.isN
  | lst _ _ _ => rfl
  | dcK _ _ _ _ => rfl
  | dcT _ _ _ _ => rfl
theorem opD_isN {x : D} : OpD X C (compareOp .Is) x .none (.bool (!notN x)) := .of op_isN fun H O vx vy ow hx hy => by
  refine ⟨hy.nn, .refl, ?_⟩
  rw [hx.isN]
  exact .bl _
theorem opD_notN {x : D} : OpD X C (compareOp .IsNot) x .none (.bool (notN x)) := .of op_notN fun H O vx vy ow hx hy => by
  refine ⟨hy.nn, .refl, ?_⟩
  rw [hx.isN, Bool.not_not]
  exact .bl _
theorem opD_isB {a b : Bool} : OpD X C (compareOp .Is) (.bool a) (.bool b) (.bool (a == b)) := by
  intro pins s σ H O vx vy v u I hx hy rx ry ow
  have e1 := hx.bool
  have e2 := hy.bool
  subst e1; subst e2
  cases rx
  cases ry
  have e : (Value.bool a == Value.bool b) = (a == b) := by cases a <;> cases b <;> rfl
  exact PySem.wpAny_is_plain (by cases a <;> cases b <;> rfl) ⟨.bl _, H, I, .refl, by rw [e]; rfl, .bl _⟩
theorem op_cmpD (hK : C.K = X.K) (hu : X.A.units + 64 < cLine) (o : CmpOp) : OpR X (compareOp o) (rB C fun x y => (cmpD o x y).map .bool) := rB.of fun x y z e => by
  obtain ⟨b, e, rfl⟩ := Option.map_eq_some_iff.mp e
  unfold cmpD at e
  split at e
  · split at e
    · cases e; exact opD_eq hK hu (by assumption)
    · cases e
  · split at e
    · cases e; exact opD_ne hK hu (by assumption)
    · cases e
  · split at e
    · rename_i h
      cases e; exact opD_ord hK hu h _ _ fun s v u as bs Q r1 r2 hn hu q => lt_data r1 r2 (ltOk_all h).1 hn hu q
    · cases e
  · split at e
    · rename_i h
      cases e; exact opD_ord hK hu h _ _ fun s v u as bs Q r1 r2 hn hu q => gt_data r1 r2 (ltOk_all h).1 hn hu q
    · cases e
  · split at e
    · rename_i h
      cases e; exact opD_ord hK hu h _ _ fun s v u as bs Q r1 r2 hn hu q => le_data r1 r2 (ltOk_all h).1 hn hu q
    · cases e
  · split at e
    · rename_i h
      cases e; exact opD_ord hK hu h _ _ fun s v u as bs Q r1 r2 hn hu q => ge_data r1 r2 (ltOk_all h).1 hn hu q
    · cases e
  · split at e
    · cases e; exact opD_inL hK hu (by assumption)
    · cases e
  · split at e
    · cases e; exact opD_inT hK hu (by assumption)
    · cases e
  · split at e
    · cases e; exact opD_inD hu (by assumption)
    · cases e
  · split at e
    · cases e; exact opD_inS (by assumption)
    · cases e
  · split at e
    · cases e; exact opD_notInL hK hu (by assumption)
    · cases e
  · split at e
    · cases e; exact opD_notInT hK hu (by assumption)
    · cases e
  · split at e
    · cases e; exact opD_notInD hu (by assumption)
    · cases e
  · cases e; exact opD_isN
  · cases e; exact opD_notN
  · cases e; exact opD_isB
  · cases e
end RW
set_option Elab.async false
set_option linter.all false
set_option maxRecDepth 100000
set_option maxHeartbeats 2000000
namespace RW
open PySem PySem.W PyProof.Rows L2
variable {X : Cx} {C : DC} {L : Clo}
/-! ### subscripts, slices -/
theorem ixD_at {n : Nat} {i : Int} {j : Nat} (h : ixD n i = some j) : ixN n i = some j ∧ j < n := by
  unfold ixD at h
  unfold ixN
  split at h
  · rename_i c
    have c := of_decide_eq_true c
    cases h
    rw [if_pos c.1, if_pos c.2]
    exact ⟨rfl, by omega⟩
  · split at h
    · rename_i c
      have c := of_decide_eq_true c
      cases h
      rw [if_neg (by omega), if_pos (by omega)]
      exact ⟨rfl, by omega⟩
    · cases h
theorem atI_of {α : Type} {xs : List α} {n : Nat} {i : Int} {j : Nat} {x : α} (h : ixD n i = some j) (hn : xs.length = n) (e : xs[j]? = some x) : atI xs i = some x := by
  unfold atI
  rw [hn, (ixD_at h).1]
  exact e
theorem ob_eq {α β : Type} {m : Option α} {f : α → Option β} {z : β} (h : ob m f = some z) : ∃ x, m = some x ∧ f x = some z := by
  cases m with
  | none => cases h
  | some x => exact ⟨x, rfl, h⟩
theorem bd_eq {α β : Type} {m : Option (α × Sto)} {f : α → Sto → Option β} {z : β} (h : bd m f = some z) : ∃ x S, m = some (x, S) ∧ f x S = some z := by
  cases m with
  | none => cases h
  | some p => exact ⟨p.1, p.2, rfl, h⟩
theorem ix_D (hK : C.K = X.K) (hu : X.A.units + 64 < cLine) : IxR X (rB C subD) := by
  intro value slice pins s σ H vx vy v u Q I rx ry ⟨O, x, y, z, ow, hx, hy, e, q⟩ hs
  unfold subD at e
  split at e
  · obtain ⟨j, e1, e2⟩ := ob_eq e
    obtain ⟨a, vs, rfl, ha, t⟩ := hx.list
    obtain ⟨w, e3, d⟩ := t.get e2
    exact ix_list value slice pins s σ H _ _ v u Q I rx ry ⟨a, vs, _, w, rfl, hy.int, SqL.of ha, atI_of e1 t.length e3, q w H .refl d⟩ hs
  · obtain ⟨j, e1, e2⟩ := ob_eq e
    obtain ⟨a, vs, rfl, ha, t⟩ := hx.tuple hK
    obtain ⟨w, e3, d⟩ := t.get e2
    exact ix_tup value slice pins s σ H _ _ v u Q I rx ry ⟨a, vs, _, w, rfl, hy.int, ha, atI_of e1 t.length e3, q w H .refl d⟩ hs
  · rename_i zz i
    split at e
    · rename_i hl
      obtain ⟨j, e1, e2⟩ := ob_eq e
      obtain ⟨c, e3, rfl⟩ := Option.map_eq_some_iff.mp e2
      refine ix_str value slice pins s σ H _ _ v u Q I rx ry ⟨zz, _, c, hx.str, hy.int, lim_le hl, atI_of e1 (by simp [Str.length]) (by rw [Array.getElem?_toList]; exact e3), q _ H .refl (.str _)⟩ hs
    · cases e
  · rename_i kvs k
    split at e
    · rename_i hk
      obtain ⟨a, rfl, g⟩ := hx.look (hy.dn (keysOk_key hk)) hk
      rcases g with ⟨e1, _⟩ | ⟨w, y, e1, g, d⟩
      · rw [e1] at e; cases e
      · rw [e1] at e
        cases e
        cases rx
        have ty : s.TypeIs (.ref a) "dict" := by
          rcases g with ⟨kvs, k, e, _⟩ | ⟨kvs, k, b, e, _⟩
          · rcases e with e | ⟨o, e⟩
            · obtain ⟨_, _, vs, _, o, es, ep, h1, h2, _⟩ := (show ObjOk X.prog X.w H s.heap a (.dK kvs) from I.hok a _ e)
              exact ⟨o, h1, h2.1⟩
            · obtain ⟨_, _, _, vs, _, o, es, ep, h1, h2, _⟩ := (show ObjOk X.prog X.w H s.heap a (.frz o (.dK kvs)) from I.hok a _ e)
              exact ⟨o, h1, h2.1⟩
          · rcases e with e | ⟨o, e⟩
            · obtain ⟨_, _, vs, _, o, es, ep, h1, h2, _⟩ := (show ObjOk X.prog X.w H s.heap a (.dT kvs) from I.hok a _ e)
              exact ⟨o, h1, h2.1⟩
            · obtain ⟨_, _, _, vs, _, o, es, ep, h1, h2, _⟩ := (show ObjOk X.prog X.w H s.heap a (.frz o (.dT kvs)) from I.hok a _ e)
              exact ⟨o, h1, h2.1⟩
        exact tail_any ty slot_dict_getitem.lookup (d_getItem (by omega) I g ry fun w' s' I' r' => ⟨w, H, I', r', q w H .refl d⟩) hs
    · cases e
  · cases e
theorem bound_sIx {n d : Nat} {o : Option Int} {i : Nat} (h : bound n d (o.map .int) = some i) : HT.sIx n d o = i := by
  cases o with
  | none => cases h; rfl
  | some v =>
    simp only [Option.map_some, bound, Option.some.injEq] at h
    rw [← h]; rfl
def rSl (C : DC) : V → Option Int → Option Int → Hp → VK → Prop := fun v lo hi H Q => ∃ (O : Ow) (x z : D), (∀ a, O a → ∃ o, H a = some o) ∧ Rb C O H v x ∧ slcD x (lo.map .int) (hi.map .int) = some z ∧ ∀ vz H', Gr H H' → Dn C O H' vz z → Q vz H'
theorem cutV_eq (xs : List V) (lo hi : Option Int) : cutV xs lo hi = cutL xs (HT.sIx xs.length 0 lo) (HT.sIx xs.length xs.length hi) := rfl
theorem sl_D (hK : C.K = X.K) : SlR X (rSl C) := by
  intro pins s σ H x v vl vu lo hi sl Q I rx hs pl pu ⟨O, y, z, ow, hx, e, q⟩
  unfold slcD at e
  split at e
  · obtain ⟨i, e1, e⟩ := ob_eq e
    obtain ⟨j, e2, e⟩ := ob_eq e
    cases e
    obtain ⟨a, vs, rfl, ha, t⟩ := hx.list
    rw [← t.length] at e1 e2
    refine sl_list pins s σ H _ v vl vu lo hi sl Q I rx hs pl pu ⟨a, vs, rfl, SqL.of ha, fun p hp => q _ _ (.new hp) (Dn.newList hp ow ?_)⟩
    rw [cutV_eq, bound_sIx e1, bound_sIx e2]
    exact (t.drop _).take _
  · obtain ⟨i, e1, e⟩ := ob_eq e
    obtain ⟨j, e2, e⟩ := ob_eq e
    cases e
    have hx' := hx.tup'
    obtain ⟨a, vs, rfl, ha, t⟩ := hx.tuple hK
    rw [← t.length] at e1 e2
    refine sl_tupA pins s σ H _ v vl vu lo hi sl Q I rx hs pl pu ⟨a, vs, rfl, ha, fun w => ?_, fun _ p hp => q _ _ (.new hp) (Dn.newTup hp ?_)⟩
    · rw [bound_sIx e1, bound_sIx e2] at w
      refine q _ _ .refl ?_
      rw [w.1, w.2, t.length]
      unfold cutL
      rw [List.drop_zero, Nat.sub_zero, List.take_length]
      exact hx'
    · rw [cutV_eq, bound_sIx e1, bound_sIx e2]
      exact (t.drop _).take _
  · obtain ⟨i, e1, e⟩ := ob_eq e
    obtain ⟨j, e2, e⟩ := ob_eq e
    split at e
    · rename_i zz hl
      cases e
      refine sl_str pins s σ H _ v vl vu lo hi sl Q I rx hs pl pu ⟨_, hx.str, lim_le hl, ?_⟩
      unfold cutS
      rw [bound_sIx e1, bound_sIx e2]
      exact q _ _ .refl (.str _)
    · cases e
  · cases e
section
variable {prog : Program} {w : World} {A : Around} {E : Value → Shared → Prop} {s : Shared}
theorem rev_pick {α : Type} (xs : Array α) : ((List.range xs.size).filterMap fun (m : Nat) => xs[(((xs.size : Nat) : Int) - 1 + (m : Int) * (-1)).toNat]?).toArray = xs.toList.reverse.toArray := by
  congr 1
  apply List.ext_getElem?
  intro i
  have e : ((List.range xs.size).filterMap fun (m : Nat) => xs[(((xs.size : Nat) : Int) - 1 + (m : Int) * (-1)).toNat]?) = (List.range xs.size).pmap (fun (m : Nat) (h : m < xs.size) => xs[xs.size - 1 - m]'(by omega)) (fun m hm => List.mem_range.mp hm) := by
    have : ∀ l : List Nat, ∀ hl : (∀ m ∈ l, m < xs.size), (l.filterMap fun (m : Nat) => xs[(((xs.size : Nat) : Int) - 1 + (m : Int) * (-1)).toNat]?) = l.pmap (fun (m : Nat) (h : m < xs.size) => xs[xs.size - 1 - m]'(by omega)) hl := by
      intro l
      induction l with
      | nil => intro _; rfl
      | cons m l ih =>
        intro hl
        have hm := hl m List.mem_cons_self
        have e1 : (((xs.size : Nat) : Int) - 1 + (m : Int) * (-1)).toNat = xs.size - 1 - m := by omega
        rw [List.filterMap_cons, e1, Array.getElem?_eq_getElem (by omega)]
        simp only [List.pmap_cons]
        rw [ih fun k hk => hl k (List.mem_cons_of_mem _ hk)]
    exact this _ _
  rw [e]
  by_cases hi : i < xs.size
  · rw [List.getElem?_eq_getElem (by simpa using hi), List.getElem?_eq_getElem (by simpa using hi)]
    simp
  · rw [List.getElem?_eq_none (by simpa using hi), List.getElem?_eq_none (by simpa using hi)]
theorem sliceApplied_rev {sl : Addr} {vs : Value} {n : Nat} {Q : Int × Int × Nat → Shared → Prop} (hs : s.heap.IsSliceOf sl .none .none vs) (ps : IsPart vs (some (-1)))
    (h : Q ((n : Int) - 1, -1, n) s) : wpAny (model prog w) A (Builtin.Slice.sliceApplied (.ref sl) (pure (n : Int))) Q E s := by
  obtain ⟨os, hos, hcs, hds⟩ := id hs
  cases ps with
  | int i t =>
  unfold Builtin.Slice.sliceApplied Builtin.Slice.sliceFields
  refine wpAny_bind (wpAny_bind (wpAny_field hos hds (x := .none) rfl (wpAny_bind (wpAny_field hos hds (x := .none) rfl (wpAny_bind (wpAny_field hos hds (x := .int (-1) t) rfl (wpAny_pure ?_)))))))
  refine wpAny_bind (slicePart_int ?_)
  show wpAny _ _ (if ((-1 : Int) == 0) = true then _ else _) _ _ s
  rw [if_neg (by decide)]
  refine wpAny_bind (slicePart_none (wpAny_bind (slicePart_none (wpAny_bind (wpAny_pure ?_)))))
  show wpAny _ _ (match Builtin.Slice.sliceAdjust none none (-1) (n : Int) with | (lo, hi) => pure (lo, (-1 : Int), Builtin.Slice.slicePlaces lo hi (-1))) _ _ s
  have e : Builtin.Slice.sliceAdjust none none (-1) (n : Int) = ((n : Int) - 1, -1) := by
    unfold Builtin.Slice.sliceAdjust
    simp
  rw [e]
  show wpAny _ _ (pure ((n : Int) - 1, (-1 : Int), Builtin.Slice.slicePlaces ((n : Int) - 1) (-1) (-1))) _ _ s
  have e2 : Builtin.Slice.slicePlaces ((n : Int) - 1) (-1) (-1) = n := by
    unfold Builtin.Slice.slicePlaces
    simp
    omega
  rw [e2]
  exact wpAny_pure h
theorem getItem_tuple_rev {t sl : Addr} {items : Array Value} {vs : Value} {Q : Value → Shared → Prop} (ht : IsTup s.heap t items) (hs : s.heap.IsSliceOf sl .none .none vs) (ps : IsPart vs (some (-1)))
    (h : Q (.ref s.heap.objs.size) { s with heap := s.heap.push { cls := .type "tuple", data := .seq items.toList.reverse.toArray } })
    (hsz : items.size ≤ sizeLine) : wpAny (model prog w) A (getItem (.ref t) (.ref sl)) Q E s := by
  have htake : sizeOk (.seq items.toList.reverse.toArray) := by
    show items.toList.reverse.toArray.size ≤ sizeLine
    rw [List.size_toArray, List.length_reverse, Array.length_toList]
    omega
  obtain ⟨os, hos, hcs, hds⟩ := id hs
  have hTs : s.TypeIs (.ref sl) "slice" := ⟨os, hos, hcs⟩
  unfold getItem
  try with_reducible refine wpAny_holding ?_
  first | refine wpAny_bind (wpAny_pure ?_) | skip
  refine wpAny_bind (wpAny_sequenceKey ht.typeIs (by decide) ?_)
  refine wpAny_bind (wpAny_callSpecial?_slot (name := Str.ofString "__getitem__") ht.typeIs PyProof.Rows.slot_tuple_getitem
    (wpAny_call_entry PyProof.Rows.slot_tuple_getitem ht.typeIs entry_tuple_getitem ?_ (args_tuple_getitem _ _)))
  show wpAny _ _ (Builtin.Tuple.tupleItemsOf (.ref t) >>= _) _ _ s
  refine wpAny_bind (PyProof.Rows.tupleItemsOf_ ht ?_)
  refine wpAny_bind (wpAny_typeOf hTs ?_)
  rw [if_pos (by decide)]
  refine wpAny_bind (sliceApplied_rev hs ps ?_)
  have hno : ¬ ((((items.size : Nat) : Int) - 1 == 0 && (-1 : Int) == 1 && items.size == items.size) = true) := by simp
  show wpAny _ _ (if ((((items.size : Nat) : Int) - 1) == 0 && (-1 : Int) == 1 && items.size == items.size) = true then _ else _) _ _ s
  rw [if_neg hno, rev_pick]
  first
    | exact wpAny_bind (m := Builtin.Tuple.tupleExact _) (wpAny_newObj_type (wpAny_pure ⟨_, rfl, wpAny_pure h⟩) htake)
    | exact wpAny_bind (m := Builtin.Tuple.tupleExact _) (wpAny_newObj_type (wpAny_bind (wpAny_pure (wpAny_pure ⟨_, rfl, wpAny_pure h⟩))) htake)
    | exact wpAny_bind (wpAny_bind (m := Builtin.Tuple.tupleExact _) (wpAny_newObj_type (wpAny_pure (wpAny_pure ⟨_, rfl, wpAny_pure h⟩)) htake))
    | exact wpAny_bind (wpAny_bind (m := Builtin.Tuple.tupleExact _) (wpAny_newObj_type (wpAny_pure ⟨_, rfl, wpAny_pure h⟩) htake))
end
/-- t[::-1] -/
theorem pe_revD (hK : C.K = X.K) {e : Expr} {te : TE} {k : Nat} {p1 p2 p3 pos : Pos} (he : PE X e te) : PE X (.Subscript e (.Slice none none (some (.UnaryOp .USub (.Constant (.int 1) k p1) p2)) p3) pos)
    (fun σ H Q => te σ H fun x H1 => ∃ (O : Ow) (y z : D), (∀ a, O a → ∃ o, H1 a = some o) ∧ Rb C O H1 x y ∧ revD y = some z ∧ ∀ vz H', Gr H1 H' → Dn C O H' vz z → Q vz H') := by
  refine ⟨fun pins s σ H Q I h => ?_⟩
  refine Subscript_ (thn (he.run pins s σ H _ I h) fun v s1 ⟨x, H1, I1, r1, q1⟩ => ?_)
  obtain ⟨O, y, z, ow, hy, ez, q⟩ := q1
  obtain ⟨xs, rfl, rfl⟩ : ∃ xs, y = .tuple xs ∧ z = .tuple xs.reverse := by
    cases y <;> simp [revD] at ez
    exact ⟨_, rfl, ez.symm⟩
  obtain ⟨a, vs, rfl, hx, t⟩ := hy.tuple hK
  cases r1
  have hst : PO X (some (.UnaryOp .USub (.Constant (.int 1) k p1) p2)) (tPart (tUn (rU fun i => .int (-i)) (tC (.int 1)))) := po_some (pe_un un_neg pe_int)
  refine wpAny_Slice (thn (po_none.run pins s1 σ H1 (fun o H2 => o = none ∧ H2 = H1) I1 ⟨rfl, rfl⟩) fun vl s2 ⟨l, H2, I2, pl, el, e2⟩ => ?_)
  subst el e2
  refine thn (po_none.run pins s2 σ H2 (fun o H3 => o = none ∧ H3 = H2) I2 ⟨rfl, rfl⟩) fun vu s3 ⟨u, H3, I3, pu, eu, e3⟩ => ?_
  subst eu e3
  refine thn (hst.run pins s3 σ H3 (fun o H4 => o = some (-1) ∧ H4 = H3) I3 ⟨1, rfl, -1, rfl, rfl, rfl⟩) fun vs' s4 ⟨o, H4, I4, ps, eo, e4⟩ => ?_
  subst eo e4
  have I5 : Inv X pins σ H4 { s4 with heap := s4.heap.push { cls := .type "slice", data := .fields #[vl, vu, vs'] } } := I4.kept (t' := s4.toks) fun b ob q => Heap.get?_push_of_some _ q
  obtain ⟨its, r, ht, hz⟩ := I5.tuple hx
  have hlen := r.length
  show wpAny (model X.prog X.w) X.A (subscriptTail e (.Slice none none (some (.UnaryOp .USub (.Constant (.int 1) k p1) p2)) p3) (.ref a) (.ref s4.heap.objs.size)) (EP X pins σ Q) X.xe { s4 with heap := s4.heap.push { cls := .type "slice", data := .fields #[vl, vu, vs'] } }
  refine tail_any (ops := [.ref a, .ref s4.heap.objs.size]) (T := "tuple") (let ⟨o, h1, h2, _⟩ := ht; ⟨o, h1, h2⟩) (PyProof.Rows.slot_tuple_getitem.lookup) ?_ (by with_unfolding_all rfl)
  cases pl
  cases pu
  refine getItem_tuple_rev ht (Heap.IsSliceOf.new _ _ _ _) ps ?_ (by rw [List.size_toArray]; omega)
  refine ⟨.ref _, _, I5.laid (t' := s4.toks) (o := .tup vs.reverse) (fun b ob q => Heap.get?_push_of_some _ q) (Nat.le_refl _) ?_, rfl, q _ _ (.new (I5.hok.fresh (Nat.le_refl _))) (Dn.newTup (I5.hok.fresh (Nat.le_refl _)) t.reverse)⟩
  exact ⟨by rw [List.length_reverse]; exact hz, _, r.reverse, IsTup.new _ _⟩
end RW
set_option Elab.async false
set_option linter.all false
set_option maxRecDepth 100000
set_option maxHeartbeats 2000000
namespace RW
open PySem PySem.W PyProof.Rows L2
variable {X : Cx} {C : DC} {L : Clo}
/-! ### built-ins -/
inductive RbA (C : DC) (O : Ow) (H : Hp) : List V → List D → Prop
  | nil : RbA C O H [] []
  | cons {v x vs xs} : Rb C O H v x → RbA C O H vs xs → RbA C O H (v :: vs) (x :: xs)
theorem RbA.one {O : Ow} {H : Hp} {vs : List V} {x : D} (h : RbA C O H vs [x]) : ∃ v, vs = [v] ∧ Rb C O H v x := by
  cases h with
  | cons a t => cases t; exact ⟨_, rfl, a⟩
theorem RbA.two {O : Ow} {H : Hp} {vs : List V} {x y : D} (h : RbA C O H vs [x, y]) : ∃ v w, vs = [v, w] ∧ Rb C O H v x ∧ Rb C O H w y := by
  cases h with
  | cons a t => cases t with
    | cons b t => cases t; exact ⟨_, _, rfl, a, b⟩
def rC (C : DC) (f : List D → Option D) : List V → Hp → VK → Prop := fun vs H Q => ∃ (O : Ow) (xs : List D) (z : D), (∀ a, O a → ∃ o, H a = some o) ∧ RbA C O H vs xs ∧ f xs = some z ∧ ∀ vz H', Gr H H' → Dn C O H' vz z → Q vz H'
theorem DnA.ints {O : Ow} {H : Hp} : ∀ {vs : List V} {ns : List Int}, DnA C O H vs (ns.map .int) → vs = ns.map V.int
  | [], [], _ => rfl
  | _ :: _, _ :: _, .cons h t => by cases h; rw [DnA.ints t]; rfl
  | [], _ :: _, t => nomatch t
  | _ :: _, [], t => nomatch t
theorem DnA.bls {O : Ow} {H : Hp} : ∀ {vs : List V} {ns : List Bool}, DnA C O H vs (ns.map .bool) → vs = ns.map V.bl
  | [], [], _ => rfl
  | _ :: _, _ :: _, .cons h t => by cases h; rw [DnA.bls t]; rfl
  | [], _ :: _, t => nomatch t
  | _ :: _, [], t => nomatch t
theorem boolsD_eq : ∀ {xs : List D} {bs : List Bool}, boolsD xs = some bs → xs = bs.map .bool
  | [], bs, e => by cases e; rfl
  | x :: xs, bs, e => by
    cases x with
    | bool b =>
      obtain ⟨r, e1, rfl⟩ := Option.map_eq_some_iff.mp e
      rw [boolsD_eq e1]; rfl
    | _ => cases e
theorem call_lenB (hK : C.K = X.K) : CallR X (.builtin "len") (rC C bLen) := by
  intro pins s σ H vs us Q I r ⟨O, xs, z, ow, h, e, q⟩
  unfold bLen at e
  split at e <;> try cases e
  · obtain ⟨n, e2, rfl⟩ := Option.map_eq_some_iff.mp e
    obtain ⟨v, rfl, hx⟩ := h.one
    clear e
    have e := e2
    clear e2
    unfold lenD at e
    split at e
    · cases e
      obtain ⟨a, ws, rfl, ha, t⟩ := hx.list
      exact call_len pins s σ H _ us Q I r ⟨_, _, rfl, .inl ⟨ws, SqL.of ha, t.length.symm⟩, q _ H .refl (.int _)⟩
    · cases e
      obtain ⟨a, ws, rfl, ha, t⟩ := hx.tuple hK
      exact call_len pins s σ H _ us Q I r ⟨_, _, rfl, .inr ⟨ws, ha, t.length.symm⟩, q _ H .refl (.int _)⟩
    · split at e
      · rename_i hl
        cases e
        have := hx.str
        subst this
        exact call_len pins s σ H _ us Q I r ⟨_, _, rfl, ⟨lim_le hl, rfl⟩, q _ H .refl (.int _)⟩
      · cases e
    · split at e
      · rename_i kvs hk
        cases e
        rw [List.all_eq_true] at hk
        obtain ⟨a, rfl, g⟩ := hx.dict hk
        rcases g with ⟨kk, ha, m, t⟩ | ⟨kk, ha, m, t⟩
        · have el : kvs.length = kk.length := by
            have := congrArg List.length m
            simpa using this
          rw [el] at q
          exact call_lenD pins s σ H _ us Q I r ⟨a, kk, rfl, ha, q _ H .refl (.int _)⟩
        · have el : kvs.length = kk.length := by
            have := congrArg List.length m
            simpa using this
          rw [el] at q
          exact call_len_dT pins s σ H _ us Q I r ⟨a, kk, rfl, ha, q _ H .refl (.int _)⟩
      · cases e
    · cases e
theorem call_absB : CallR X (.builtin "abs") (rC C bAbs) := by
  intro pins s σ H vs us Q I r ⟨O, xs, z, ow, h, e, q⟩
  unfold bAbs at e
  split at e <;> try cases e
  obtain ⟨v, rfl, hx⟩ := h.one
  exact call_abs pins s σ H _ us Q I r ⟨_, by rw [hx.int], q _ H .refl (.int _)⟩
theorem call_intB : CallR X (.type "int") (rC C bInt) := by
  intro pins s σ H vs us Q I r ⟨O, xs, z, ow, h, e, q⟩
  unfold bInt at e
  split at e <;> try cases e
  · obtain ⟨v, rfl, hx⟩ := h.one
    exact call_int1 pins s σ H _ us Q I r (.inl ⟨_, by rw [hx.int], q _ H .refl (.int _)⟩)
  · obtain ⟨v, rfl, hx⟩ := h.one
    exact call_int1 pins s σ H _ us Q I r (.inr ⟨_, by rw [hx.bool], q _ H .refl (.int _)⟩)
theorem call_tupB (hK : C.K = X.K) : CallR X (.type "tuple") (rC C bTuple) := by
  intro pins s σ H vs us Q I r ⟨O, xs, z, ow, h, e, q⟩
  unfold bTuple at e
  split at e <;> try cases e
  · obtain ⟨v, rfl, hx⟩ := h.one
    obtain ⟨a, ws, rfl, ha, t⟩ := hx.list
    exact call_tuple_of pins s σ H _ us Q I r ⟨a, ws, rfl, .inl ⟨SqL.of ha, fun p hp => q _ _ (.new hp) (Dn.newTup hp t)⟩⟩
  · obtain ⟨v, rfl, hx⟩ := h.one
    have hx' := hx.tup'
    obtain ⟨a, ws, rfl, ha, t⟩ := hx.tuple hK
    exact call_tuple_of pins s σ H _ us Q I r ⟨a, ws, rfl, .inr ⟨ha, q _ _ .refl hx'⟩⟩
theorem DnA.ofK {O : Ow} {H : Hp} : ∀ ks : List Key, DnA C O H (ks.map L2.kV) (ks.map kD)
  | [] => .nil
  | .inl i :: r => .cons (.int i) (DnA.ofK r)
  | .inr x :: r => .cons (.str x) (DnA.ofK r)
theorem DnA.keysT {O : Ow} {H : Hp} : ∀ {kvs : List (List Key × V)} {bs : List Addr}, IsKeys H kvs bs → DnA C O H (bs.map V.ref) (kvs.map fun p => .tuple (p.1.map kD))
  | [], [], _ => .nil
  | _ :: _, _ :: _, .cons h t => .cons (.tupH h (DnA.ofK _)) (DnA.keysT t)
theorem call_listB (hK : C.K = X.K) (hc : X.calm = true) : CallR X (.type "list") (rC C bList) := by
  intro pins s σ H vs us Q I r ⟨O, xs, z, ow, h, e, q⟩
  unfold bList at e
  split at e <;> try cases e
  · obtain ⟨v, rfl, hx⟩ := h.one
    obtain ⟨a, ws, rfl, ha, t⟩ := hx.list
    exact call_list_of pins s σ H _ us Q I r ⟨a, ws, rfl, .inl (SqL.of ha), fun p hp => q _ _ (.new hp) (Dn.newList hp ow t)⟩
  · obtain ⟨v, rfl, hx⟩ := h.one
    obtain ⟨a, ws, rfl, ha, t⟩ := hx.tuple hK
    exact call_list_of pins s σ H _ us Q I r ⟨a, ws, rfl, .inr ha, fun p hp => q _ _ (.new hp) (Dn.newList hp ow t)⟩
  · rename_i kvs
    split at e
    · rename_i hk
      cases e
      rw [List.all_eq_true] at hk
      obtain ⟨v, rfl, hx⟩ := h.one
      obtain ⟨a, rfl, g⟩ := hx.dict hk
      rcases g with ⟨kk, ha, m, t⟩ | ⟨kk, ha, m, t⟩
      · refine call_list_dK hc pins s σ H _ us Q I r ⟨a, kk, rfl, ha, fun p hp => q _ _ (.new hp) (Dn.newList hp ow ?_)⟩
        rw [m]
        have := DnA.ofK (C := C) (O := O) (H := H) (kk.map (·.1))
        rw [List.map_map, List.map_map] at this
        exact this
      · refine call_list_dT hc pins s σ H _ us Q I r ⟨a, kk, rfl, .inl ha, fun p bs hp hb => q _ _ (.new hp) (Dn.newList hp ow ?_)⟩
        rw [m]
        exact DnA.keysT hb
    · cases e
theorem call_allB (hc : X.calm = true) : CallR X (.builtin "all") (rC C bAll) := by
  intro pins s σ H vs us Q I r ⟨O, xs, z, ow, h, e, q⟩
  unfold bAll at e
  split at e <;> try cases e
  · obtain ⟨bs, e2, rfl⟩ := Option.map_eq_some_iff.mp e
    obtain ⟨v, rfl, hx⟩ := h.one
    obtain ⟨a, ws, rfl, ha, t⟩ := hx.list
    rw [boolsD_eq e2] at t
    rw [t.bls] at ha
    exact cr_all hc pins s σ H _ us Q I r ⟨a, bs, rfl, SqL.of ha, q _ H .refl (.bl _)⟩
theorem call_anyB (hc : X.calm = true) : CallR X (.builtin "any") (rC C bAny) := by
  intro pins s σ H vs us Q I r ⟨O, xs, z, ow, h, e, q⟩
  unfold bAny at e
  split at e <;> try cases e
  · obtain ⟨bs, e2, rfl⟩ := Option.map_eq_some_iff.mp e
    obtain ⟨v, rfl, hx⟩ := h.one
    obtain ⟨a, ws, rfl, ha, t⟩ := hx.list
    rw [boolsD_eq e2] at t
    rw [t.bls] at ha
    exact cr_any hc pins s σ H _ us Q I r ⟨a, bs, rfl, SqL.of ha, q _ H .refl (.bl _)⟩
theorem call_divmodB : CallR X (.builtin "divmod") (rC C bDivmod) := by
  intro pins s σ H vs us Q I r ⟨O, xs, z, ow, h, e, q⟩
  unfold bDivmod at e
  split at e <;> try cases e
  split at e
  · rename_i h1
    cases e
    obtain ⟨v, w, rfl, hx, hy⟩ := h.two
    exact call_divmod pins s σ H _ us Q I r ⟨_, _, by rw [hx.int, hy.int], (of_decide_eq_true h1 : _ ∧ _), fun p hp => q _ _ (.new hp) (Dn.newTup hp (.cons (.int _) (.cons (.int _) .nil)))⟩
  · cases e
/-! sorted -/
theorem readsAll_of {P : Value → D → Prop} {h : Heap} : ∀ {vs : List Value} {xs : List D}, EachIs (fun v b => ∃ as, Reads h v b as) vs xs → ∃ as, ReadsAll h vs xs as
  | [], [], _ => ⟨_, .nil⟩
  | _ :: _, _ :: _, .cons ⟨_, a⟩ t => let ⟨_, b⟩ := readsAll_of (P := P) t; ⟨_, .cons a b⟩
theorem DnA.each {O : Ow} {H : Hp} : ∀ {vs : List V} {us : List Value} {xs : List D}, DnA C O H vs xs → Vals vs us → EachIs (fun u x => ∃ w, RelV w u ∧ Dn C O H w x) us xs
  | _, _, _, .nil, .nil => .nil
  | _, _, _, .cons h t, .cons r rr => .cons ⟨_, r, h⟩ (DnA.each t rr)
theorem each_vals {O : Ow} {H : Hp} : ∀ {us : List Value} {xs : List D}, EachIs (fun u x => ∃ w, RelV w u ∧ Dn C O H w x) us xs → ∃ vs, Vals vs us ∧ DnA C O H vs xs
  | [], [], .nil => ⟨[], .nil, .nil⟩
  | _ :: _, _ :: _, .cons ⟨w, r, d⟩ t => let ⟨vs, a, b⟩ := each_vals t; ⟨w :: vs, .cons r a, .cons d b⟩
theorem DnA.eachR {pins : List (Addr × Obj)} {σ : L2.St} {H : Hp} {s : Shared} {O : Ow} (I : Inv X pins σ H s) (hK : C.K = X.K) : ∀ {vs : List V} {us : List Value} {xs : List D}, DnA C O H vs xs → Vals vs us → xs.all okD = true → EachIs (fun u x => ∃ as, Reads s.heap u x as) us xs
  | _, _, _, .nil, .nil, _ => .nil
  | _, _, _, .cons h t, .cons r rr, e => by
    rw [List.all_cons, Bool.and_eq_true] at e
    exact .cons (h.reads I hK r (okD_and e.1).1) (DnA.eachR I hK t rr e.2)
theorem sortOk_and {xs : List D} (h : sortOk xs = true) : AllAlike xs ∧ xs.all okD = true ∧ xs.length ≤ sizeLine ∧ Sortable xs := by
  unfold sortOk at h
  simp only [Bool.and_eq_true, Bool.or_eq_true] at h
  obtain ⟨⟨⟨h1, h2⟩, h3⟩, h4⟩ := h
  refine ⟨?_, h2, lim_le h3, ?_⟩
  · unfold allAlike at h1
    rw [List.all_eq_true] at h1
    intro d hd d' hd'
    have := h1 d hd
    rw [List.all_eq_true] at this
    exact this d' hd'
  · rcases h4 with h4 | h4
    · refine .inl fun d hd => ?_
      rw [List.all_eq_true] at h4
      have := h4 d hd
      unfold tup1 at this
      split at this
      · exact ⟨_, _, rfl⟩
      · cases this
    · refine .inr fun d hd => ?_
      rw [List.all_eq_true] at h4
      have := h4 d hd
      rw [Bool.and_eq_true] at this
      refine ⟨fun e => ?_, fun ys e => ?_⟩
      · rw [e] at this; cases this.1
      · rw [e] at this; cases this.2
section
variable {prog : Program} {w : World} {A : Around} {E : Value → Shared → Prop} {s : Shared}
theorem collect_tup {l : Addr} {vs : List Value} {Q : List Value → Shared → Prop} (hl : IsTup s.heap l vs.toArray)
    (h : Q vs { s with heap := (s.heap.push (seqObj "list" #[] 0)).update s.heap.objs.size (Obj.mapSeq (· ++ vs.toArray)) }) (hsz : vs.length ≤ sizeLine) :
    wpAny (model prog w) A (collect (.ref l)) Q E s := by
  obtain ⟨o, ho, hc, n, hd⟩ := id hl
  unfold collect
  refine wpAny_bind (wpAny_runValue (codeAny_builtin entry_proto_collect' ?_))
  show wpAny _ _ (do again (.builtin "list.__iadd__" ⟨[← newList [], .ref l], []⟩)) _ _ s
  refine wpAny_bind (wpAny_newList (wpAny_pure ⟨Code.quiet_builtin _ (by decide +kernel), codeAny_builtin entry_list_iadd' ?_⟩))
  show wpAny _ _ (Builtin.List.listExtendWith (.ref s.heap.objs.size) (.ref l) (.ref s.heap.objs.size)) _ _ { s with heap := s.heap.push (seqObj "list" #[] 0) }
  unfold Builtin.List.listExtendWith
  have ho' : (s.heap.push (seqObj "list" #[] 0)).get? l = some o := Heap.get?_push_of_some _ ho
  refine wpAny_bind (wpAny_typeOf (T := "tuple") ⟨o, ho', hc⟩ ?_)
  have ht : (Value.type "tuple" == Value.type "tuple") = true := by rfl
  rw [if_pos (by rw [ht]; simp)]
  refine wpAny_bind (listItems_at ho' hd ?_)
  refine wpAny_bind (listItems_at (xs := #[]) (n := 0) (Heap.get?_push_size _ rfl) rfl ?_)
  rw [if_neg (by simp)]
  refine wpAny_bind (listUpdate_at (xs := #[]) (n := 0) (Heap.get?_push_size _ rfl) rfl ?_ (Nat.zero_le _) (by show (#[] ++ vs.toArray).size ≤ sizeLine + 1; simp only [Array.size_append, List.size_toArray, List.length_nil]; omega))
  refine wpAny_pure ?_
  show wpAny (model prog w) A (do
      let o ← load s.heap.objs.size
      match o.data with
      | .seq xs _ => pure xs.toList
      | _ => unsupported "internal:collect") Q E { s with heap := (s.heap.push (seqObj "list" #[] 0)).update s.heap.objs.size (Obj.mapSeq (· ++ vs.toArray)) }
  refine wpAny_bind (wpAny_load (get?_update_seq (Heap.get?_push_size _ rfl) _) ?_)
  show wpAny _ _ (pure ((#[] : Array Value) ++ vs.toArray).toList) Q E _
  rw [show ((#[] : Array Value) ++ vs.toArray).toList = vs by simp]
  exact wpAny_pure h
theorem sorted_of_sortT {l : Addr} {vs : List Value} {kw : List (Str × Value)} {Q : Value → Shared → Prop} (hl : IsTup s.heap l vs.toArray) (hL : vs.length ≤ sizeLine) (ha1 : argsOk "sorted" ⟨[.ref l], kw⟩) (ha2 : ∀ x, argsOk "list.sort" ⟨[.ref x], kw⟩)
    (body : ∀ E' : Value → Shared → Prop, wpAny (model prog w) A.in1.in1 (Builtin.«list.sort» ⟨[.ref (s.heap.objs.size + 1)], kw⟩) (fun f s' => f = .done (.ret .none) ∧ Q (.ref (s.heap.objs.size + 1)) s') E' { s with heap := copyHeap s.heap vs }) :
    wpAny (model prog w) A (call (.builtin "sorted") [.ref l] kw) Q E s := by
  refine call_function_entry_kw kind_sorted plain_sorted entry_sorted ha1 ?_
  unfold Builtin.«sorted»
  refine wpAny_bind (m := checkCount "sorted" 1 1 _) (wpAny_pure ?_)
  refine wpAny_bind (collect_tup hl ?_ hL)
  refine wpAny_bind (wpAny_newList ?_ hL)
  have hsz : ((s.heap.push (seqObj "list" #[] 0)).update s.heap.objs.size (Obj.mapSeq (· ++ vs.toArray))).objs.size = s.heap.objs.size + 1 := by
    rw [Heap.size_update, size_push']
  show wpAny _ _ _ _ _ { s with heap := copyHeap s.heap vs }
  rw [hsz]
  refine wpAny_bind (wpAny_holding (wpAny_call_entry_kw slot_list_sort ⟨_, copyHeap_at s.heap vs, rfl⟩ entry_list_sort ?body (ha2 _)))
  case body =>
    show wpAny (model prog w) A.in1.in1 (Builtin.«list.sort» ⟨[.ref (s.heap.objs.size + 1)], kw⟩) _ _ _
    refine wpAny_mono (body _) (fun f s' hf => ?_) fun _ _ e => e
    obtain ⟨rfl, hq⟩ := hf
    exact ⟨_, rfl, wpAny_pure ⟨_, rfl, hq⟩⟩
theorem sorted_dataT {β : Type} {vs : List Value} {bs : List β} {enc : β → PyData} {R : Value → β → Prop} {l : Addr} {Q : Value → Shared → Prop} (hl : IsTup s.heap l vs.toArray) (e : EachIs R vs bs) (er : EachIs (fun v b => ∃ as, Reads s.heap v (enc b) as) vs bs) (hal : AllAlike (bs.map enc)) (hk : Sortable (bs.map enc)) (hL : bs.length ≤ sizeLine)
    (hu : ∀ b, b ∈ bs → A.units + 2 + (enc b).depth < cLine) (h : ∀ out, out.length = bs.length → EachIs R out (bs.mergeSort (dataLe false enc)) → Q (.ref (s.heap.objs.size + 1)) { s with heap := sortedAll s.heap vs (List.toArray out) }) :
    wpAny (model prog w) A (call (.builtin "sorted") [.ref l]) Q E s := by
  have er' : EachIs (fun v b => ∃ as, Reads (sortingHeap (copyHeap s.heap vs) (s.heap.objs.size + 1) vs) v (enc b) as) vs bs := er.mono fun _ _ ⟨as, r⟩ => ⟨as, PyProof.Rows.Reads.keeps (fun _ _ => sorting_copy_old) r⟩
  refine sorted_of_sortT hl (by rw [e.length]; exact hL) (args_sorted1 _) (fun _ => args_list_sort _) fun _ => list_sort_vals (s := { s with heap := copyHeap s.heap vs }) (copyHeap_at s.heap vs) (SortsAt.data (s := { s with heap := sortingHeap (copyHeap s.heap vs) (s.heap.objs.size + 1) vs }) (each_map (R := fun v d => ∃ as, Reads (sortingHeap (copyHeap s.heap vs) (s.heap.objs.size + 1) vs) v d as) enc er') hal hk (bound_map hu)) (by rw [e.length]; exact hL)
    ⟨rfl, h _ (by rw [sortVals_length false rfl]; exact e.length) (sortVals_data false e er' hal)⟩
end
theorem call_sortB (hK : C.K = X.K) (hu : X.A.units + 64 < cLine) : CallR X (.builtin "sorted") (rC C bSorted) := by
  intro pins s σ H vs us Q I r ⟨O, xs, z, ow, h, e, q⟩
  have dep : ∀ {ys : List D}, ys.all okD = true → ∀ b, b ∈ ys → X.A.units + 2 + (id b : D).depth < cLine := fun {ys} hy b hb => by
    rw [List.all_eq_true] at hy
    have := (okD_and (hy b hb)).2
    show X.A.units + 2 + b.depth < cLine
    omega
  unfold bSorted at e
  split at e <;> try cases e
  · rename_i ys
    split at e
    · rename_i hs
      cases e
      obtain ⟨h1, h2, h3, h4⟩ := sortOk_and hs
      obtain ⟨v, rfl, hx⟩ := h.one
      obtain ⟨a, ws, rfl, ha, t⟩ := hx.list
      obtain ⟨its, rv, hl, _⟩ := I.list (X := X) (SqL.of ha)
      rw [Vals.ref1 r]
      have er := DnA.eachR I hK t rv h2
      refine sorted_data (enc := id) hl.isList (t.each rv) er (by rw [List.map_id]; exact h1) (by rw [List.map_id]; exact h4) h3 (dep h2) fun out ho eo => ?_
      obtain ⟨ep, he'⟩ := PyProof.Rows.sortedAll_at s.heap its out.toArray
      obtain ⟨vs', va, da⟩ := each_vals eo
      have hlen : vs'.length ≤ sizeLine := by rw [Vals.length va, ho]; exact h3
      exact ⟨.ref _, upd H (s.heap.objs.size + 1) (.lst vs'), I.laid (t' := s.toks) (fun _ _ => PyProof.Rows.sortedAll_old) (Nat.le_succ _) ⟨hlen, out, ep, va, he'⟩, rfl, q _ _ (.new (I.hok.fresh (Nat.le_succ _))) (Dn.newList (I.hok.fresh (Nat.le_succ _)) ow da)⟩
    · cases e
  · rename_i ys
    split at e
    · rename_i hs
      cases e
      obtain ⟨h1, h2, h3, h4⟩ := sortOk_and hs
      obtain ⟨v, rfl, hx⟩ := h.one
      obtain ⟨a, ws, rfl, ha, t⟩ := hx.tuple hK
      obtain ⟨its, rv, hl, _⟩ := I.tuple (X := X) ha
      rw [Vals.ref1 r]
      have er := DnA.eachR I hK t rv h2
      refine sorted_dataT (enc := id) hl (t.each rv) er (by rw [List.map_id]; exact h1) (by rw [List.map_id]; exact h4) h3 (dep h2) fun out ho eo => ?_
      obtain ⟨ep, he'⟩ := PyProof.Rows.sortedAll_at s.heap its out.toArray
      obtain ⟨vs', va, da⟩ := each_vals eo
      have hlen : vs'.length ≤ sizeLine := by rw [Vals.length va, ho]; exact h3
      exact ⟨.ref _, upd H (s.heap.objs.size + 1) (.lst vs'), I.laid (t' := s.toks) (fun _ _ => PyProof.Rows.sortedAll_old) (Nat.le_succ _) ⟨hlen, out, ep, va, he'⟩, rfl, q _ _ (.new (I.hok.fresh (Nat.le_succ _))) (Dn.newList (I.hok.fresh (Nat.le_succ _)) ow da)⟩
    · cases e
end RW
set_option Elab.async false
set_option linter.all false
set_option maxRecDepth 100000
set_option maxHeartbeats 2000000
namespace RW
open PySem PySem.W PyProof.Rows L2
variable {X : Cx} {C : DC} {L : Clo}
/-- what the module says of its one class of instances -/
structure DCok (C : DC) : Prop where
  only : ∀ c A, C.cls c = some A → c = "Web"
  cl : ∀ c A, C.cls c = some A → Cls C.K A ∧ PySem.W.findIn C.K (.ref A) "__class__" = some (some (.builtin "object.__class__")) ∧ PySem.W.specialIn C.K (.builtin "object.__class__") "__get__" = some (some (.builtin "getset_descriptor.__get__")) ∧ PySem.W.takesIn C.K (.builtin "object.__class__") = some true ∧ PySem.W.mroIn C.K A (.type "object") = some true
  no : ∀ c A, C.cls c = some A → ∀ T, T = "tuple" ∨ T = "list" ∨ T = "str" ∨ T = "int" ∨ T = "bool" ∨ T = "dict" → PySem.W.kitOne C.K (.ref A) (.type T) = some false
  web : ∀ A, C.cls "Web" = some A → ∀ T, T = "NoneType" ∨ T = "tuple" ∨ T = "list" ∨ T = "str" ∨ T = "int" ∨ T = "bool" ∨ T = "dict" → PySem.W.kitOne C.K (.type T) (.ref A) = some false
def tyD : D → String
  | .none => "NoneType"
  | .bool _ => "bool"
  | .int _ => "int"
  | .str _ => "str"
  | .list _ => "list"
  | .tuple _ => "tuple"
  | .dict _ => "dict"
/-- the type of data: a built-in's, or the class of instances -/
theorem Dn.ty (ok : DCok C) {O : Ow} {H : Hp} {v : V} {x : D} (h : Dn C O H v x) (hf : isFn x = false) : (isInst x = false ∧ TyX C.K H v (.type (tyD x))) ∨ (isInst x = true ∧ x.isDict = true ∧ x.isBool = false ∧ x.isInt = false ∧ x.isStr = false ∧ x.isList = false ∧ x.isTuple = false ∧ ∃ A, C.cls "Web" = some A ∧ TyX C.K H v (.ref A)) := by
  cases h with
  | non => exact .inl ⟨rfl, .base .non⟩
  | bl b => exact .inl ⟨rfl, .base (.bl b)⟩
  | int i => exact .inl ⟨rfl, .base (.int i)⟩
  | str z => exact .inl ⟨rfl, .base (.str z)⟩
  | list n q t => exact .inl ⟨rfl, .base (.lst q)⟩
  | tupH q t => exact .inl ⟨rfl, .base (.tup q)⟩
  | tupK q l t =>
    refine .inl ⟨rfl, ?_⟩
    rcases q with (z | ⟨_, z⟩) | ⟨o, its, n, z, c, _⟩
    · cases z
    · cases z
    · exact .kTuple z c
  | @dicK a kvs xs n q e t =>
    refine .inl ⟨?_, .base (.dK q)⟩
    cases xs with
    | nil => rfl
    | cons p r =>
      cases kvs with
      | nil => cases e
      | cons p' r' =>
        simp only [List.map_cons, List.cons.injEq] at e
        obtain ⟨p1, p2⟩ := p
        have e1 : p1 = kD p'.1 := e.1
        subst e1
        cases p'.1 <;> rfl
  | @dicT a kvs xs n q e t =>
    refine .inl ⟨?_, .base (.dT q)⟩
    cases xs with
    | nil => rfl
    | cons p r =>
      cases kvs with
      | nil => cases e
      | cons p' r' =>
        simp only [List.map_cons, List.cons.injEq] at e
        obtain ⟨p1, p2⟩ := p
        have e1 : p1 = .tuple (p'.1.map kD) := e.1
        subst e1
        rfl
  | @ins a c A dx f v x n hc q t =>
    have e := ok.only c A hc
    subst e
    obtain ⟨c1, c2, c3, c4, c5⟩ := ok.cl _ A hc
    exact .inr ⟨by simp [isInst], rfl, rfl, rfl, rfl, rfl, rfl, A, hc, .base (.ins q c1 c2 c3 c4 c5)⟩
  | fn e => cases hf
theorem Rb.ty (ok : DCok C) {O : Ow} {H : Hp} {v : V} {x : D} (h : Rb C O H v x) (hf : isFn x = false) : (isInst x = false ∧ TyX C.K H v (.type (tyD x))) ∨ (isInst x = true ∧ x.isDict = true ∧ x.isBool = false ∧ x.isInt = false ∧ x.isStr = false ∧ x.isList = false ∧ x.isTuple = false ∧ ∃ A, C.cls "Web" = some A ∧ TyX C.K H v (.ref A)) := by
  cases h with
  | d h => exact h.ty ok hf
  | lst o q t => exact .inl ⟨rfl, .base (.lst q)⟩
  | @dcK a kvs xs o q e t =>
    refine .inl ⟨?_, .base (.dK q)⟩
    cases xs with
    | nil => rfl
    | cons p r =>
      cases kvs with
      | nil => cases e
      | cons p' r' =>
        simp only [List.map_cons, List.cons.injEq] at e
        obtain ⟨p1, p2⟩ := p
        have e1 : p1 = kD p'.1 := e.1
        subst e1
        cases p'.1 <;> rfl
  | @dcT a kvs xs o q e t =>
    refine .inl ⟨?_, .base (.dT q)⟩
    cases xs with
    | nil => rfl
    | cons p r =>
      cases kvs with
      | nil => cases e
      | cons p' r' =>
        simp only [List.map_cons, List.cons.injEq] at e
        obtain ⟨p1, p2⟩ := p
        have e1 : p1 = .tuple (p'.1.map kD) := e.1
        subst e1
        rfl
/-- the class as a value -/
def IsCls (C : DC) (t : String) (v : V) : Prop := (t ≠ "Web" ∧ v = .ty t) ∨ (t = "Web" ∧ ∃ A, C.cls "Web" = some A ∧ v = .ref A)
theorem kitB_all : ∀ T ∈ ["NoneType", "bool", "int", "str", "list", "tuple", "dict"], ∀ t ∈ ["bool", "int", "str", "list", "tuple", "dict"], kitB T t = some (decide (T = t) || (decide (T = "bool") && decide (t = "int"))) := by decide +kernel
theorem isD_kit (ok : DCok C) {O : Ow} {H : Hp} {v c : V} {x : D} {t : String} {b : Bool} (h : Rb C O H v x) (e : isD t x = some b) (hc : IsCls C t c) : ∃ (tv u : Value), ClsV c u ∧ TyX C.K H v tv ∧ PySem.W.kitOne C.K tv u = some b := by
  unfold isD at e
  split at e
  · cases e
  · rename_i hf
    have hf : isFn x = false := by simpa using hf
    have tymem : tyD x ∈ ["NoneType", "bool", "int", "str", "list", "tuple", "dict"] := by cases x <;> simp [tyD]
    have go : ∀ t' : String, t = t' → t' ∈ ["bool", "int", "str", "list", "tuple", "dict"] → (∀ (z : isInst x = false), b = (decide (tyD x = t') || (decide (tyD x = "bool") && decide (t' = "int")))) → (isInst x = true → x.isDict = true → x.isBool = false → x.isInt = false → x.isStr = false → x.isList = false → x.isTuple = false → b = false) → ∃ (tv u : Value), ClsV c u ∧ TyX C.K H v tv ∧ PySem.W.kitOne C.K tv u = some b := by
      intro t' et ht h1 h2
      subst et
      have nw : t ≠ "Web" := fun z => by subst z; exact absurd ht (by decide)
      have cv : c = .ty t := by
        rcases hc with ⟨_, z⟩ | ⟨z, _⟩
        · exact z
        · exact absurd z nw
      subst cv
      rcases h.ty ok hf with ⟨i, ty⟩ | ⟨i, k1, k2, k3, k4, k5, k6, A, hA, ty⟩
      · refine ⟨_, _, .ty t, ty, kit_ty ?_⟩
        rw [h1 i]
        exact kitB_all _ tymem _ ht
      · refine ⟨_, _, .ty t, ty, ?_⟩
        rw [h2 i k1 k2 k3 k4 k5 k6]
        refine ok.no _ A hA t ?_
        simp only [List.mem_cons, List.not_mem_nil, or_false] at ht
        rcases ht with z | z | z | z | z | z <;> simp [z]
    split at e
    · rename_i et
      cases e
      exact go _ et (by decide) (fun _ => by cases x <;> rfl) fun _ _ _ _ _ _ z => z
    · split at e
      · rename_i et
        cases e
        exact go _ et (by decide) (fun _ => by cases x <;> rfl) fun _ _ _ _ _ z _ => z
      · split at e
        · rename_i et
          cases e
          exact go _ et (by decide) (fun _ => by cases x <;> rfl) fun _ _ _ _ z _ _ => z
        · split at e
          · rename_i et
            cases e
            exact go _ et (by decide) (fun _ => by cases x <;> rfl) fun _ _ _ z _ _ _ => z
          · split at e
            · rename_i et
              cases e
              exact go _ et (by decide) (fun _ => by cases x <;> rfl) fun _ _ z _ _ _ _ => z
            · split at e
              · rename_i et
                cases e
                exact go _ et (by decide) (fun i => by rw [i]; cases x <;> rfl) fun i _ _ _ _ _ _ => by rw [i]; simp
              · split at e
                · rename_i et
                  cases e
                  subst et
                  obtain ⟨A, hA, rfl⟩ : ∃ A, C.cls "Web" = some A ∧ c = .ref A := by
                    rcases hc with ⟨z, _⟩ | ⟨_, z⟩
                    · exact absurd rfl z
                    · exact z
                  rcases h.ty ok hf with ⟨i, ty⟩ | ⟨i, _, _, _, _, _, _, A', hA', ty⟩
                  · refine ⟨_, _, .own A, ty, ?_⟩
                    rw [i]
                    refine ok.web A hA _ ?_
                    simp only [List.mem_cons, List.not_mem_nil, or_false] at tymem
                    rcases tymem with z | z | z | z | z | z | z <;> simp [z]
                  · rw [hA] at hA'
                    cases hA'
                    refine ⟨_, _, .own A, ty, ?_⟩
                    rw [i]
                    unfold PySem.W.kitOne
                    rw [if_pos (by simp)]
                · cases e
/-- isinstance(x, t) -/
theorem call_isB (hK : C.K = X.K) (ok : DCok C) : CallR X (.builtin "isinstance") (fun vs H Q => ∃ (O : Ow) (v c : V) (x : D) (t : String) (b : Bool), vs = [v, c] ∧ Rb C O H v x ∧ IsCls C t c ∧ isD t x = some b ∧ Q (.bl b) H) := by
  intro pins s σ H vs us Q I r ⟨O, v, c, x, t, b, e, h, hc, e2, q⟩
  obtain ⟨tv, u, k1, k2, k3⟩ := isD_kit ok h e2 hc
  exact call_isi pins s σ H vs us Q I r ⟨v, c, tv, u, b, e, k1, hK ▸ k2, hK ▸ k3, q⟩
/-! ### max, min -/
theorem ReadsAll.of_eachP {h : Heap} : ∀ {vs : List Value} {xs : List D}, EachIs (fun v b => ∃ as, Reads h v b as) vs xs → ∃ as, ReadsAll h vs xs as
  | [], [], _ => ⟨_, .nil⟩
  | _ :: _, _ :: _, .cons ⟨_, a⟩ t => let ⟨_, b⟩ := ReadsAll.of_eachP t; ⟨_, .cons a b⟩
theorem minOk_and {xs : List D} (h : minOk xs = true) : AlikeAll xs ∧ xs.all okD = true ∧ xs.length ≤ sizeLine := by
  unfold minOk at h
  simp only [Bool.and_eq_true] at h
  obtain ⟨⟨h1, h2⟩, h3⟩ := h
  rw [List.all_eq_true] at h2
  refine ⟨⟨?_, fun x hx e => ?_⟩, ?_, lim_le h3⟩
  · unfold allAlike at h1
    rw [List.all_eq_true] at h1
    intro d hd d' hd'
    have := h1 d hd
    rw [List.all_eq_true] at this
    exact this d' hd'
  · have := h2 x hx
    rw [Bool.and_eq_true] at this
    rw [e] at this
    cases this.2
  · rw [List.all_eq_true]
    intro x hx
    have := h2 x hx
    rw [Bool.and_eq_true] at this
    exact this.1
theorem depthAll_le : ∀ {xs : List D}, xs.all okD = true → PyData.depthAll xs ≤ 60
  | [], _ => Nat.zero_le _
  | x :: xs, h => by
    rw [List.all_cons, Bool.and_eq_true] at h
    exact Nat.max_le.mpr ⟨(okD_and h.1).2, depthAll_le h.2⟩
/-- the item that was chosen -/
theorem DnA.pick {pins : List (Addr × Obj)} {σ : L2.St} {H : Hp} {s : Shared} {O : Ow} (I : Inv X pins σ H s) (hK : C.K = X.K) {vs : List V} {its : List Value} {xs : List D} {z : D} {i : Nat} {v : Value} {h' : Heap} {bs : List Addr} (t : DnA C O H vs xs) (rv : Vals vs its)
    (ok : xs.all okD = true) (e : its.toArray[i]? = some v) (r : Reads h' v z bs) (hz : z.plain = true) (k : ∀ b o, s.heap.get? b = some o → h'.get? b = some o) : ∃ w, RelV w v ∧ Dn C O H w z := by
  have e' : its[i]? = some v := by simpa using e
  have hi : i < vs.length := by rw [rv.length]; exact (List.getElem?_eq_some_iff.mp e').1
  have ew : vs[i]? = some vs[i] := List.getElem?_eq_getElem hi
  obtain ⟨u, eu, ru⟩ := rv.get ew
  rw [e'] at eu
  cases eu
  obtain ⟨x, ex, dx⟩ := t.get' ew
  have hx : okD x = true := by
    rw [List.all_eq_true] at ok
    exact ok x (List.mem_of_getElem? ex)
  obtain ⟨as, rx⟩ := dx.reads I hK ru (okD_and hx).1
  have rx' : Reads h' v x as := PyProof.Rows.Reads.keeps k rx
  have := SeqAt.plain_unique x _ _ _ _ (okD_and hx).1 rx' r
  subst this
  exact ⟨_, ru, dx⟩
theorem minD_mem (x : D) : ∀ xs : List D, minD x xs ∈ x :: xs := by
  intro xs
  unfold minD
  induction xs generalizing x with
  | nil => exact List.mem_cons_self
  | cons y ys ih =>
    rw [List.foldl_cons]
    by_cases h : dataLt y x = true
    · rw [if_pos h]
      exact List.mem_cons_of_mem _ (ih y)
    · rw [if_neg h]
      rcases List.mem_cons.mp (ih x) with z | z
      · rw [z]; exact List.mem_cons_self
      · exact List.mem_cons_of_mem _ (List.mem_cons_of_mem _ z)
theorem maxD_mem (x : D) : ∀ xs : List D, maxD x xs ∈ x :: xs := by
  intro xs
  unfold maxD
  induction xs generalizing x with
  | nil => exact List.mem_cons_self
  | cons y ys ih =>
    rw [List.foldl_cons]
    by_cases h : dataLt x y = true
    · rw [if_pos h]
      exact List.mem_cons_of_mem _ (ih y)
    · rw [if_neg h]
      rcases List.mem_cons.mp (ih x) with z | z
      · rw [z]; exact List.mem_cons_self
      · exact List.mem_cons_of_mem _ (List.mem_cons_of_mem _ z)
theorem ok_mem {xs : List D} {x : D} (h : xs.all okD = true) (hx : x ∈ xs) : x.plain = true := by
  rw [List.all_eq_true] at h
  exact (okD_and (h x hx)).1
/-- two numbers, two texts -/
theorem atomD_eq {x y : D} (h : atomD x y = true) : (∃ i j, x = .int i ∧ y = .int j) ∨ ∃ a b, x = .str a ∧ y = .str b := by
  unfold atomD at h
  split at h
  · exact .inl ⟨_, _, rfl, rfl⟩
  · exact .inr ⟨_, _, rfl, rfl⟩
  · cases h
section
variable {prog : Program} {w : World} {A : Around} {E : Value → Shared → Prop} {s : Shared}
theorem CmpOf.data_gt {P : Nat → Value → Prop} (val : Nat → D) (hn : ∀ i, val i ≠ .none) (ha : ∀ i j, alike (val i) (val j) = true) (hd : ∀ i, (val i).depth = 0) (hu : A.units < cLine) (hval : ∀ i v, P i v → ∀ h : Heap, ∃ as, Reads h v (val i) as) :
    CmpOf prog w A .Gt P (fun i j => dataLt (val j) (val i)) := fun i j vi vj s Q E hi hj h => by
  obtain ⟨as, ra⟩ := hval i vi hi s.heap
  obtain ⟨bs, rb⟩ := hval j vj hj s.heap
  have := gt_data (prog := prog) (w := w) (A := A) (E := E) (Q := Q) ra rb (ha i j) (hn i) (by rw [hd i]; simpa using hu) h
  exact this
theorem CmpOf.data_lt {P : Nat → Value → Prop} (val : Nat → D) (hn : ∀ i, val i ≠ .none) (ha : ∀ i j, alike (val i) (val j) = true) (hd : ∀ i, (val i).depth = 0) (hu : A.units < cLine) (hval : ∀ i v, P i v → ∀ h : Heap, ∃ as, Reads h v (val i) as) :
    CmpOf prog w A .Lt P (fun i j => dataLt (val i) (val j)) := fun i j vi vj s Q E hi hj h => by
  obtain ⟨as, ra⟩ := hval i vi hi s.heap
  obtain ⟨bs, rb⟩ := hval j vj hj s.heap
  have := lt_data (prog := prog) (w := w) (A := A) (E := E) (Q := Q) ra rb (ha i j) (hn i) (by rw [hd i]; simpa using hu) h
  exact this
def val2 (x y : D) : Nat → D
  | 1 => y
  | _ => x
theorem max_two_data {x y : D} {a b : Value} {Q : Value → Shared → Prop} (hh : A.handled = none) (hu : A.units + 1 < cLine) (hxy : atomD x y = true) (ra : ∀ h : Heap, ∃ as, Reads h a x as) (rb : ∀ h : Heap, ∃ as, Reads h b y as)
    (h : ∀ h' tk, (∀ c o, s.heap.get? c = some o → h'.get? c = some o) → Q (if dataLt x y = true then b else a) { s with heap := h', toks := tk }) :
    wpAny (model prog w) A (call (.builtin "max") [a, b]) Q E s := by
  have hT : (s.heap.push { cls := .type "tuple", data := .seq #[a, b] }).IsTuple s.heap.objs.size #[a, b] := ⟨_, Heap.get?_push_size _ rfl, rfl, 0, rfl⟩
  refine call_max_two (wpAny_pyIter_tuple hT ?_)
  have hsz : (s.heap.push { cls := .type "tuple", data := .seq #[a, b] }).objs.size = s.heap.objs.size + 1 := Heap.size_push ..
  have hn : ∀ i, val2 x y i ≠ .none := fun i => by
    rcases atomD_eq hxy with ⟨i1, j1, rfl, rfl⟩ | ⟨i1, j1, rfl, rfl⟩ <;> (unfold val2; split <;> exact fun z => nomatch z)
  have ha : ∀ i j, alike (val2 x y i) (val2 x y j) = true := fun i j => by
    rcases atomD_eq hxy with ⟨i1, j1, rfl, rfl⟩ | ⟨i1, j1, rfl, rfl⟩ <;> (unfold val2; split <;> split <;> rfl)
  have hd : ∀ i, (val2 x y i).depth = 0 := fun i => by
    rcases atomD_eq hxy with ⟨i1, j1, rfl, rfl⟩ | ⟨i1, j1, rfl, rfl⟩ <;> (unfold val2; split <;> rfl)
  refine ⟨_, [_, s.heap.objs.size], [_], _, _, _, _, rfl, Walks.tuple (A := A.in1) hh _ s.heap.objs.size (by rw [hsz]; exact Nat.ne_of_lt (Nat.lt_succ_self _)) #[a, b],
    ⟨⟨_, Heap.get?_push_size _ rfl, rfl, rfl⟩, hT.push _⟩, fun c hc => ?_, by simp, CmpOf.data_gt (A := A.in1) (val2 x y) hn ha hd hu (fun i v hv h => ?_), fun v h' tk hP hk => ?_⟩
  · show c < ((s.heap.push _).push _).objs.size
    rw [Heap.size_push, hsz]
    rcases List.mem_cons.mp hc with rfl | hc
    · rw [hsz]; exact Nat.lt_succ_self _
    · rcases List.mem_cons.mp hc with rfl | hc
      · exact Nat.lt_succ_of_lt (Nat.lt_succ_self _)
      · cases hc
  · match i, hv with
    | 0, hv => cases hv; exact ra h
    | 1, hv => cases hv; exact rb h
    | i + 2, hv => simp at hv
  · have hold : ∀ c o, s.heap.get? c = some o → h'.get? c = some o := fun c o e => by
      refine hk c o (fun hm => ?_) (Heap.get?_push_of_some _ (Heap.get?_push_of_some _ e))
      rcases List.mem_cons.mp hm with e1 | hm
      · have := Heap.lt_size e; rw [e1, hsz] at this; exact Nat.lt_irrefl _ (Nat.lt_of_succ_lt this)
      · cases hm
    have := h h' tk hold
    have hv : v = if dataLt x y = true then b else a := by
      have hP' : (#[a, b] : Array Value)[argBest (fun i j => dataLt (val2 x y j) (val2 x y i)) 1]? = some v := hP
      by_cases hba : dataLt x y = true
      · have e : argBest (fun i j => dataLt (val2 x y j) (val2 x y i)) 1 = 1 := by simp [argBest, val2, hba]
        rw [e] at hP'
        simpa [hba] using hP'.symm
      · have e : argBest (fun i j => dataLt (val2 x y j) (val2 x y i)) 1 = 0 := by simp [argBest, val2, hba]
        rw [e] at hP'
        simpa [hba] using hP'.symm
    rw [hv]; exact this
theorem min_two_data {x y : D} {a b : Value} {Q : Value → Shared → Prop} (hh : A.handled = none) (hu : A.units + 1 < cLine) (hxy : atomD x y = true) (ra : ∀ h : Heap, ∃ as, Reads h a x as) (rb : ∀ h : Heap, ∃ as, Reads h b y as)
    (h : ∀ h' tk, (∀ c o, s.heap.get? c = some o → h'.get? c = some o) → Q (if dataLt y x = true then b else a) { s with heap := h', toks := tk }) :
    wpAny (model prog w) A (call (.builtin "min") [a, b]) Q E s := by
  have hT : (s.heap.push { cls := .type "tuple", data := .seq #[a, b] }).IsTuple s.heap.objs.size #[a, b] := ⟨_, Heap.get?_push_size _ rfl, rfl, 0, rfl⟩
  refine call_min_two (wpAny_pyIter_tuple hT ?_)
  have hsz : (s.heap.push { cls := .type "tuple", data := .seq #[a, b] }).objs.size = s.heap.objs.size + 1 := Heap.size_push ..
  have hn : ∀ i, val2 x y i ≠ .none := fun i => by
    rcases atomD_eq hxy with ⟨i1, j1, rfl, rfl⟩ | ⟨i1, j1, rfl, rfl⟩ <;> (unfold val2; split <;> exact fun z => nomatch z)
  have ha : ∀ i j, alike (val2 x y i) (val2 x y j) = true := fun i j => by
    rcases atomD_eq hxy with ⟨i1, j1, rfl, rfl⟩ | ⟨i1, j1, rfl, rfl⟩ <;> (unfold val2; split <;> split <;> rfl)
  have hd : ∀ i, (val2 x y i).depth = 0 := fun i => by
    rcases atomD_eq hxy with ⟨i1, j1, rfl, rfl⟩ | ⟨i1, j1, rfl, rfl⟩ <;> (unfold val2; split <;> rfl)
  refine ⟨_, [_, s.heap.objs.size], [_], _, _, _, _, rfl, Walks.tuple (A := A.in1) hh _ s.heap.objs.size (by rw [hsz]; exact Nat.ne_of_lt (Nat.lt_succ_self _)) #[a, b],
    ⟨⟨_, Heap.get?_push_size _ rfl, rfl, rfl⟩, hT.push _⟩, fun c hc => ?_, by simp, CmpOf.data_lt (A := A.in1) (val2 x y) hn ha hd hu (fun i v hv h => ?_), fun v h' tk hP hk => ?_⟩
  · show c < ((s.heap.push _).push _).objs.size
    rw [Heap.size_push, hsz]
    rcases List.mem_cons.mp hc with rfl | hc
    · rw [hsz]; exact Nat.lt_succ_self _
    · rcases List.mem_cons.mp hc with rfl | hc
      · exact Nat.lt_succ_of_lt (Nat.lt_succ_self _)
      · cases hc
  · match i, hv with
    | 0, hv => cases hv; exact ra h
    | 1, hv => cases hv; exact rb h
    | i + 2, hv => simp at hv
  · have hold : ∀ c o, s.heap.get? c = some o → h'.get? c = some o := fun c o e => by
      refine hk c o (fun hm => ?_) (Heap.get?_push_of_some _ (Heap.get?_push_of_some _ e))
      rcases List.mem_cons.mp hm with e1 | hm
      · have := Heap.lt_size e; rw [e1, hsz] at this; exact Nat.lt_irrefl _ (Nat.lt_of_succ_lt this)
      · cases hm
    have := h h' tk hold
    have hv : v = if dataLt y x = true then b else a := by
      have hP' : (#[a, b] : Array Value)[argBest (fun i j => dataLt (val2 x y i) (val2 x y j)) 1]? = some v := hP
      by_cases hba : dataLt y x = true
      · have e : argBest (fun i j => dataLt (val2 x y i) (val2 x y j)) 1 = 1 := by simp [argBest, val2, hba]
        rw [e] at hP'
        simpa [hba] using hP'.symm
      · have e : argBest (fun i j => dataLt (val2 x y i) (val2 x y j)) 1 = 0 := by simp [argBest, val2, hba]
        rw [e] at hP'
        simpa [hba] using hP'.symm
    rw [hv]; exact this
end
theorem Rb.atom {O : Ow} {H : Hp} {v w : V} {x y : D} (h : atomD x y = true) (hx : Rb C O H v x) (hy : Rb C O H w y) : Dn C O H v x ∧ Dn C O H w y ∧ (∀ u, RelV v u → ∀ h : Heap, ∃ as, Reads h u x as) ∧ ∀ u, RelV w u → ∀ h : Heap, ∃ as, Reads h u y as := by
  rcases atomD_eq h with ⟨i, j, rfl, rfl⟩ | ⟨i, j, rfl, rfl⟩
  · have e1 := hx.int
    have e2 := hy.int
    subst e1; subst e2
    exact ⟨.int _, .int _, fun u ⟨t, e⟩ h => by subst e; exact ⟨_, .int _ t⟩, fun u ⟨t, e⟩ h => by subst e; exact ⟨_, .int _ t⟩⟩
  · have e1 := hx.str
    have e2 := hy.str
    subst e1; subst e2
    exact ⟨.str _, .str _, fun u ⟨t, e⟩ h => by subst e; exact ⟨_, .str _ t⟩, fun u ⟨t, e⟩ h => by subst e; exact ⟨_, .str _ t⟩⟩
theorem call_maxB (hK : C.K = X.K) (hc : X.calm = true) (hu : X.A.units + 64 < cLine) : CallR X (.builtin "max") (rC C bMax) := by
  intro pins s σ H vs us Q I r ⟨O, xs, z, ow, h, e, q⟩
  unfold bMax at e
  split at e <;> try cases e
  · split at e
    · rename_i hs
      cases e
      obtain ⟨h1, h2, h3⟩ := minOk_and hs
      obtain ⟨v, rfl, hx⟩ := h.one
      obtain ⟨a, ws, rfl, ha, t⟩ := hx.list
      obtain ⟨its, rv, hl, _⟩ := I.list (X := X) (SqL.of ha)
      rw [Vals.ref1 r]
      obtain ⟨as, hr⟩ := ReadsAll.of_eachP (DnA.eachR I hK t rv h2)
      refine max_list_data (I.ok.hd hc) hl.isList (by simpa using hr) h1 (by have := depthAll_le h2; omega) fun i v h' tk bs ei ri k => ?_
      obtain ⟨w, rw', dw⟩ := DnA.pick I hK t rv h2 ei ri (ok_mem h2 (maxD_mem _ _)) k
      exact ⟨w, H, I.kept k, rw', q w H .refl dw⟩
    · cases e
  · split at e
    · rename_i hs
      cases e
      obtain ⟨h1, h2, h3⟩ := minOk_and hs
      obtain ⟨v, rfl, hx⟩ := h.one
      obtain ⟨a, ws, rfl, ha, t⟩ := hx.tuple hK
      obtain ⟨its, rv, hl, _⟩ := I.tuple (X := X) ha
      rw [Vals.ref1 r]
      obtain ⟨as, hr⟩ := ReadsAll.of_eachP (DnA.eachR I hK t rv h2)
      refine max_tuple_data (I.ok.hd hc) (show s.heap.IsTuple a its.toArray from hl) (by simpa using hr) h1 (by have := depthAll_le h2; omega) fun i v h' tk bs ei ri k => ?_
      obtain ⟨w, rw', dw⟩ := DnA.pick I hK t rv h2 ei ri (ok_mem h2 (maxD_mem _ _)) k
      exact ⟨w, H, I.kept k, rw', q w H .refl dw⟩
    · cases e
  · split at e
    · rename_i x y hs
      cases e
      obtain ⟨v, w, rfl, hx, hy⟩ := h.two
      obtain ⟨d1, d2, r1, r2⟩ := Rb.atom hs hx hy
      obtain ⟨u1, u2, rfl, ru1, ru2⟩ := vals2 r
      refine max_two_data (I.ok.hd hc) (by omega) hs (r1 _ ru1) (r2 _ ru2) fun h' tk k => ?_
      have e : mostD x [y] = if dataLt x y = true then y else x := rfl
      rw [e] at q
      by_cases hl : dataLt x y = true
      · rw [if_pos hl] at q ⊢
        exact ⟨w, H, I.kept k, ru2, q w H .refl d2⟩
      · rw [if_neg hl] at q ⊢
        exact ⟨v, H, I.kept k, ru1, q v H .refl d1⟩
    · cases e
theorem call_minB (hK : C.K = X.K) (hc : X.calm = true) (hu : X.A.units + 64 < cLine) : CallR X (.builtin "min") (rC C bMin) := by
  intro pins s σ H vs us Q I r ⟨O, xs, z, ow, h, e, q⟩
  unfold bMin at e
  split at e <;> try cases e
  · split at e
    · rename_i hs
      cases e
      obtain ⟨h1, h2, h3⟩ := minOk_and hs
      obtain ⟨v, rfl, hx⟩ := h.one
      obtain ⟨a, ws, rfl, ha, t⟩ := hx.list
      obtain ⟨its, rv, hl, _⟩ := I.list (X := X) (SqL.of ha)
      rw [Vals.ref1 r]
      obtain ⟨as, hr⟩ := ReadsAll.of_eachP (DnA.eachR I hK t rv h2)
      refine min_list_data (I.ok.hd hc) hl.isList (by simpa using hr) h1 (by have := depthAll_le h2; omega) fun i v h' tk bs ei ri k => ?_
      obtain ⟨w, rw', dw⟩ := DnA.pick I hK t rv h2 ei ri (ok_mem h2 (minD_mem _ _)) k
      exact ⟨w, H, I.kept k, rw', q w H .refl dw⟩
    · cases e
  · split at e
    · rename_i x y hs
      cases e
      obtain ⟨v, w, rfl, hx, hy⟩ := h.two
      obtain ⟨d1, d2, r1, r2⟩ := Rb.atom hs hx hy
      obtain ⟨u1, u2, rfl, ru1, ru2⟩ := vals2 r
      refine min_two_data (I.ok.hd hc) (by omega) hs (r1 _ ru1) (r2 _ ru2) fun h' tk k => ?_
      have e : leastD x [y] = if dataLt y x = true then y else x := rfl
      rw [e] at q
      by_cases hl : dataLt y x = true
      · rw [if_pos hl] at q ⊢
        exact ⟨w, H, I.kept k, ru2, q w H .refl d2⟩
      · rw [if_neg hl] at q ⊢
        exact ⟨v, H, I.kept k, ru1, q v H .refl d1⟩
    · cases e
end RW
set_option Elab.async false
set_option linter.all false
set_option maxRecDepth 100000
set_option maxHeartbeats 2000000
namespace RW
open PySem PySem.W PyProof.Rows L2
variable {X : Cx} {C : DC} {L : Clo}
/-! ### readings from the interpreter -/
theorem _root_.L2.PE.imp {e : Expr} {t t' : TE} (h : PE X e t) (i : ∀ σ H Q, t' σ H Q → t σ H Q) : PE X e t' := ⟨fun pins s σ H Q I q => h.run pins s σ H Q I (i σ H Q q)⟩
theorem _root_.L2.PT.imp {e : Expr} {t t' : TT} (h : PT X e t) (i : ∀ σ H Q, t' σ H Q → t σ H Q) : PT X e t' := ⟨fun pins s σ H Q I q => h.run pins s σ H Q I (i σ H Q q)⟩
theorem _root_.L2.PA.imp {e : List Expr} {t t' : TA} (h : PA X e t) (i : ∀ σ H Q, t' σ H Q → t σ H Q) : PA X e t' := ⟨fun pos pins s σ H Q I q => h.run pos pins s σ H Q I (i σ H Q q)⟩
theorem _root_.L2.PS.imp {e : Stmt} {t t' : TS} (h : PS X e t) (i : ∀ D σ H, t' D σ H → t D σ H) : PS X e t' := ⟨fun pins s σ H D I q => h.run pins s σ H D I (i D σ H q)⟩
theorem _root_.L2.PSs.imp {e : List Stmt} {t t' : TS} (h : PSs X e t) (i : ∀ D σ H, t' D σ H → t D σ H) : PSs X e t' := ⟨fun pins s σ H D I q => h.run pins s σ H D I (i D σ H q)⟩
/-- the state at hand -/
structure At (C : DC) (L : Clo) (O : Ow) (φ : List Addr) (H : Hp) (σ : L2.St) (env : Env1) (S : Sto) : Prop where
  sim : Sim C O φ H S
  env : EnvOk C L O φ H σ env
theorem At.ow {O : Ow} {φ : List Addr} {H : Hp} {σ : L2.St} {env : Env1} {S : Sto} (a : At C L O φ H σ env S) : ∀ b, O b → ∃ o, H b = some o := fun b h => let ⟨o, e, _⟩ := a.sim.ow b h; ⟨o, e⟩
theorem At.next {O O' : Ow} {φ φ' : List Addr} {H H' : Hp} {σ : L2.St} {env : Env1} {S S' : Sto} (a : At C L O φ H σ env S) (n : Nxt O φ H O' φ' H') (sm : Sim C O' φ' H' S') : At C L O' φ' H' σ env S' := ⟨sm, a.env.mono a.sim n⟩
theorem At.gr {O : Ow} {φ : List Addr} {H H' : Hp} {σ : L2.St} {env : Env1} {S : Sto} (a : At C L O φ H σ env S) (g : Gr H H') : At C L O φ H' σ env S := a.next g.nxt (a.sim.gr g)
/-- an expression's reading: what the interpreter makes of it -/
def tE (C : DC) (L : Clo) (m : Env1 → Sto → Option (W × Sto)) : TE := fun σ H Q => ∃ O φ S env w S', At C L O φ H σ env S ∧ m env S = some (w, S') ∧ ∀ v O' φ' H', Nxt O φ H O' φ' H' → Sim C O' φ' H' S' → WOk C L O' φ' H' v w → Q v H'
def tT (C : DC) (L : Clo) (m : Env1 → Sto → Option (Bool × Sto)) : TT := fun σ H Q => ∃ O φ S env b S', At C L O φ H σ env S ∧ m env S = some (b, S') ∧ ∀ O' φ' H', Nxt O φ H O' φ' H' → Sim C O' φ' H' S' → Q b H'
def tA (C : DC) (L : Clo) (m : Env1 → Sto → Option (List W × Sto)) : TA := fun σ H Q => ∃ O φ S env ws S', At C L O φ H σ env S ∧ m env S = some (ws, S') ∧ ∀ vs O' φ' H', Nxt O φ H O' φ' H' → Sim C O' φ' H' S' → WsOk C L O' φ' H' vs ws → Q vs H'
def tO (C : DC) (L : Clo) (m : Env1 → Sto → Option (Option D × Sto)) : TO := fun σ H Q => ∃ O φ S env o S', At C L O φ H σ env S ∧ m env S = some (o, S') ∧ ∀ O' φ' H', Nxt O φ H O' φ' H' → Sim C O' φ' H' S' → ∀ i : Option Int, o = i.map .int → Q i H'
section
variable {O : Ow} {φ : List Addr} {H : Hp} {σ : L2.St} {env : Env1} {S : Sto}
/-- the first of two steps -/
theorem tE.seq {m : Env1 → Sto → Option (W × Sto)} {α : Type} {f : W → Sto → Option α} {z : α} {Q : VK} (a : At C L O φ H σ env S) (e : bd (m env S) f = some z)
    (h : ∀ v w O' φ' H' S', Nxt O φ H O' φ' H' → At C L O' φ' H' σ env S' → WOk C L O' φ' H' v w → f w S' = some z → Q v H') : tE C L m σ H Q := by
  obtain ⟨w, S', e1, e2⟩ := bd_eq e
  exact ⟨O, φ, S, env, w, S', a, e1, fun v O' φ' H' n sm wo => h v w O' φ' H' S' n (a.next n sm) wo e2⟩
theorem tT.seq {m : Env1 → Sto → Option (Bool × Sto)} {α : Type} {f : Bool → Sto → Option α} {z : α} {Q : Bool → Hp → Prop} (a : At C L O φ H σ env S) (e : bd (m env S) f = some z)
    (h : ∀ b O' φ' H' S', Nxt O φ H O' φ' H' → At C L O' φ' H' σ env S' → f b S' = some z → Q b H') : tT C L m σ H Q := by
  obtain ⟨w, S', e1, e2⟩ := bd_eq e
  exact ⟨O, φ, S, env, w, S', a, e1, fun O' φ' H' n sm => h w O' φ' H' S' n (a.next n sm) e2⟩
theorem tA.seq {m : Env1 → Sto → Option (List W × Sto)} {α : Type} {f : List W → Sto → Option α} {z : α} {Q : List V → Hp → Prop} (a : At C L O φ H σ env S) (e : bd (m env S) f = some z)
    (h : ∀ vs ws O' φ' H' S', Nxt O φ H O' φ' H' → At C L O' φ' H' σ env S' → WsOk C L O' φ' H' vs ws → f ws S' = some z → Q vs H') : tA C L m σ H Q := by
  obtain ⟨w, S', e1, e2⟩ := bd_eq e
  exact ⟨O, φ, S, env, w, S', a, e1, fun v O' φ' H' n sm wo => h v w O' φ' H' S' n (a.next n sm) wo e2⟩
/-- the last step -/
theorem tE.last {m : Env1 → Sto → Option (W × Sto)} {z : W × Sto} {Q : VK} (a : At C L O φ H σ env S) (e : m env S = some z)
    (h : ∀ v O' φ' H', Nxt O φ H O' φ' H' → Sim C O' φ' H' z.2 → WOk C L O' φ' H' v z.1 → Q v H') : tE C L m σ H Q := ⟨O, φ, S, env, z.1, z.2, a, e, h⟩
theorem tT.last {m : Env1 → Sto → Option (Bool × Sto)} {z : Bool × Sto} {Q : Bool → Hp → Prop} (a : At C L O φ H σ env S) (e : m env S = some z)
    (h : ∀ O' φ' H', Nxt O φ H O' φ' H' → Sim C O' φ' H' z.2 → Q z.1 H') : tT C L m σ H Q := ⟨O, φ, S, env, z.1, z.2, a, e, h⟩
theorem tA.last {m : Env1 → Sto → Option (List W × Sto)} {z : List W × Sto} {Q : List V → Hp → Prop} (a : At C L O φ H σ env S) (e : m env S = some z)
    (h : ∀ v O' φ' H', Nxt O φ H O' φ' H' → Sim C O' φ' H' z.2 → WsOk C L O' φ' H' v z.1 → Q v H') : tA C L m σ H Q := ⟨O, φ, S, env, z.1, z.2, a, e, h⟩
end
/-! ### the rules -/
section
variable {m m1 m2 m3 : Env1 → Sto → Option (W × Sto)} {a b c : Expr} {pos : Pos}
theorem wk_d {O : Ow} {φ : List Addr} {H : Hp} {v : V} {x : D} (h : WOk C L O φ H v (.d x)) : Dn C O H v x := h
theorem pe_v {i : Nat} {x : Str} (hN : X.N[i]? = some x) (hv : Vis X.env.scope x) (hd : (x == ("__debug__" : Str)) = false) (hcd : (x == ("__classdict__" : Str)) = false) : PE X (.Name x pos) (tE C L fun e S => (slot e i).map fun w => (w, S)) :=
  (pe_var hN hv hd hcd).imp fun σ H Q ⟨O, φ, S, env, w, S', at_, e, h⟩ => by
    obtain ⟨w', e1, e2⟩ := Option.map_eq_some_iff.mp e
    cases e2
    obtain ⟨v, ev, wo⟩ := at_.env.at_ i w e1
    exact ⟨v, ev, h v O φ H .refl at_.sim wo⟩
/-- a constant -/
theorem pe_c {e : Expr} {v : V} {x : D} (h : PE X e (tC v)) (hx : ∀ O H, Dn C O H v x) : PE X e (tE C L fun _ S => some (.d x, S)) :=
  h.imp fun σ H Q ⟨O, φ, S, env, w, S', at_, e, h⟩ => by
    cases e
    exact h v O φ H .refl at_.sim (hx O H)
theorem pe_binW (hK : C.K = X.K) (o : Operator) (ha : PE X a (tE C L m1)) (hb : PE X b (tE C L m2)) :
    PE X (.BinOp a o b pos) (tE C L fun e S => bd (m1 e S) fun x S => bd (m2 e S) fun y S => ob (rd S x) fun x => ob (rd S y) fun y => (binD o x y).map fun z => (.d z, S)) :=
  (pe_op (op_binD hK o) ha hb).imp fun σ H Q ⟨O, φ, S, env, w, S', at_, e, h⟩ => by
    refine tE.seq at_ e fun v1 x O1 φ1 H1 S1 n1 at1 w1 e => ?_
    refine tE.seq at1 e fun v2 y O2 φ2 H2 S2 n2 at2 w2 e => ?_
    obtain ⟨dx, ex, e⟩ := ob_eq e
    obtain ⟨dy, ey, e⟩ := ob_eq e
    obtain ⟨dz, ez, e⟩ := Option.map_eq_some_iff.mp e
    cases e
    refine ⟨O2, dx, dy, dz, at2.ow, (w1.mono at1.sim n2).rd at2.sim ex, w2.rd at2.sim ey, ez, fun vz H' g d => ?_⟩
    exact h vz O2 φ2 H' ((n1.trans at_.ow n2).trans at_.ow g.nxt) (at2.sim.gr g) d
theorem pe_negW (ha : PE X a (tE C L m1)) : PE X (.UnaryOp .USub a pos) (tE C L fun e S => bd (m1 e S) fun x S => match x with
    | .d (.int i) => some (.d (.int (-i)), S)
    | _ => none) :=
  (pe_un un_neg ha).imp fun σ H Q ⟨O, φ, S, env, w, S', at_, e, h⟩ => by
    refine tE.seq at_ e fun v1 x O1 φ1 H1 S1 n1 at1 w1 e => ?_
    split at e
    · rename_i i
      cases e
      have := wk_d w1
      cases this
      exact ⟨i, rfl, h _ O1 φ1 H1 n1 at1.sim (.int _)⟩
    · cases e
/-- a comparison -/
theorem op_own_in (hu : X.A.units + 64 < cLine) : OpR X (compareOp .In) (fun x y H Q => ∃ a o, y = .ref a ∧ DGet H a x o ∧ Q (.bl o.isSome) H) := by
  intro pins s σ H x y v u Q I rx ry ⟨a, o, e, g, q⟩
  subst e
  cases ry
  exact d_in (by omega) I g rx fun s' I' => ⟨.bl _, H, I', rfl, q⟩
theorem op_own_notin (hu : X.A.units + 64 < cLine) : OpR X (compareOp .NotIn) (fun x y H Q => ∃ a o, y = .ref a ∧ DGet H a x o ∧ Q (.bl (!o.isSome)) H) := by
  intro pins s σ H x y v u Q I rx ry ⟨a, o, e, g, q⟩
  subst e
  cases ry
  exact d_notIn (by omega) I g rx fun s' I' => ⟨.bl _, H, I', rfl, q⟩
/-- a look into an owned dict -/
theorem own_look {O : Ow} {φ : List Addr} {H : Hp} {S : Sto} {v w : V} {k : W} {i : Nat} {o : Option D} (sm : Sim C O φ H S) (hw : WOk C L O φ H w (.ref i)) (hk : WOk C L O φ H v k) (e : ownGet S i k = some o) : ∃ a, w = .ref a ∧
    ((o = none ∧ DGet H a v none) ∨ ∃ u x, o = some x ∧ DGet H a v (some u) ∧ Dn C O H u x) := by
  obtain ⟨a, ea, rfl⟩ := hw
  refine ⟨a, rfl, ?_⟩
  unfold ownGet at e
  split at e
  · rename_i t kvs es
    obtain ⟨x, ex, e2⟩ := ob_eq e
    clear e
    have e := e2
    clear e2
    obtain rfl : k = .d x := by
      cases k <;> simp [pd] at ex
      rw [ex]
    split at e
    · rename_i hk2
      cases e
      rw [Bool.and_eq_true] at hk2
      have mo := sm.at_ i _ a es ea
      rcases keyD_of hk2.1 with ⟨kk, rfl, tf⟩ | ⟨ks, rfl, l3⟩
      · rw [tf] at hk2
        cases t with
        | true => cases hk2.2
        | false =>
          obtain ⟨_, vs, e1, m, t⟩ := mo
          have ev := (wk_d hk).kV
          subst ev
          rcases dget_rel (f := kD) eqv_kD kk m t with ⟨e2, e3⟩ | ⟨u, y, e2, e3, d⟩
          · exact .inl ⟨e2, e3 ▸ DGet.k e1⟩
          · exact .inr ⟨u, y, e2, e3 ▸ DGet.k e1, d⟩
      · cases t with
        | false => cases hk2.2
        | true =>
          obtain ⟨_, vs, e1, m, t⟩ := mo
          obtain ⟨b, rfl, eb⟩ := (wk_d hk).keyT l3
          rcases dget_rel (f := fun ks : List Key => PyData.tuple (ks.map kD)) eqv_kT ks m t with ⟨e2, e3⟩ | ⟨u, y, e2, e3, d⟩
          · exact .inl ⟨e2, e3 ▸ DGet.t e1 eb⟩
          · exact .inr ⟨u, y, e2, e3 ▸ DGet.t e1 eb, d⟩
    · cases e
  · cases e
theorem isDct_ref {S : Sto} {w : W} (h : isDct S w = true) : ∃ i, w = .ref i ∧ refI w = i := by
  cases w with
  | ref i => exact ⟨i, rfl, rfl⟩
  | _ => cases h
/-- a comparison by values -/
def rCmp (C : DC) (L : Clo) (o : CmpOp) : R2 := fun vx vy H Q => ∃ (O : Ow) (φ : List Addr) (S : Sto) (x y : W) (z : Bool), Sim C O φ H S ∧ WOk C L O φ H vx x ∧ WOk C L O φ H vy y ∧ cmpW o S x y = some z ∧ ∀ H', Gr H H' → Q (.bl z) H'
theorem op_cmpW (hK : C.K = X.K) (hu : X.A.units + 64 < cLine) (o : CmpOp) : OpR X (compareOp o) (rCmp C L o) := by
  intro pins s σ H vx vy v u Q I rx ry ⟨O, φ, S, x, y, z, sm, wx, wy, e, q⟩
  unfold cmpW at e
  split at e
  · rename_i hd
    obtain ⟨i, rfl, _⟩ := isDct_ref hd
    split at e
    · obtain ⟨oo, e1, rfl⟩ := Option.map_eq_some_iff.mp e
      obtain ⟨a, rfl, g⟩ := own_look sm wy wx e1
      rcases g with ⟨rfl, g⟩ | ⟨w, d, rfl, g, _⟩
      · exact op_own_in hu pins s σ H _ _ v u Q I rx ry ⟨a, _, rfl, g, q H .refl⟩
      · exact op_own_in hu pins s σ H _ _ v u Q I rx ry ⟨a, _, rfl, g, q H .refl⟩
    · obtain ⟨oo, e1, rfl⟩ := Option.map_eq_some_iff.mp e
      obtain ⟨a, rfl, g⟩ := own_look sm wy wx e1
      rcases g with ⟨rfl, g⟩ | ⟨w, d, rfl, g, _⟩
      · exact op_own_notin hu pins s σ H _ _ v u Q I rx ry ⟨a, _, rfl, g, q H .refl⟩
      · exact op_own_notin hu pins s σ H _ _ v u Q I rx ry ⟨a, _, rfl, g, q H .refl⟩
    · cases e
  · obtain ⟨dx, ex, e⟩ := ob_eq e
    obtain ⟨dy, ey, e⟩ := ob_eq e
    refine op_cmpD hK hu o pins s σ H vx vy v u Q I rx ry ⟨O, dx, dy, .bool z, fun a h => let ⟨o, e, _⟩ := sm.ow a h; ⟨o, e⟩, wx.rd sm ex, wy.rd sm ey, by show (cmpD o dx dy).map PyData.bool = _; rw [e]; rfl, fun vz H' g d => ?_⟩
    cases d
    exact q H' g
theorem pe_cmpW (hK : C.K = X.K) (hu : X.A.units + 64 < cLine) (o : CmpOp) (ha : PE X a (tE C L m1)) (hb : PE X b (tE C L m2)) (hm : behindInMarks o b = false) :
    PE X (.Compare a [o] [b] pos) (tE C L fun e S => bd (m1 e S) fun x S => bd (m2 e S) fun y S => (cmpW o S x y).map fun z => (.d (.bool z), S)) :=
  (pe_cmpR (op_cmpW hK hu o) ha hb hm).imp fun σ H Q ⟨O, φ, S, env, w, S', at_, e, h⟩ => by
    refine tE.seq at_ e fun v1 x O1 φ1 H1 S1 n1 at1 w1 e => ?_
    refine tE.seq at1 e fun v2 y O2 φ2 H2 S2 n2 at2 w2 e => ?_
    obtain ⟨z, ez, e⟩ := Option.map_eq_some_iff.mp e
    cases e
    exact ⟨O2, φ2, _, x, y, z, at2.sim, w1.mono at1.sim n2, w2, ez, fun H' g => h _ O2 φ2 H' ((n1.trans at_.ow n2).trans at_.ow g.nxt) (at2.sim.gr g) (.bl _)⟩
theorem pt_cmpW (hK : C.K = X.K) (hu : X.A.units + 64 < cLine) (o : CmpOp) (ha : PE X a (tE C L m1)) (hb : PE X b (tE C L m2)) (hm : behindInMarks o b = false) :
    PT X (.Compare a [o] [b] pos) (tT C L fun e S => tb (bd (m1 e S) fun x S => bd (m2 e S) fun y S => (cmpW o S x y).map fun z => (.d (.bool z), S))) :=
  (pt_cmpR (op_cmpW hK hu o) ha hb hm).imp fun σ H Q ⟨O, φ, S, env, w, S', at_, e, h⟩ => by
    obtain ⟨ww, SS, e, e'⟩ := bd_eq e
    refine tE.seq at_ e fun v1 x O1 φ1 H1 S1 n1 at1 w1 e => ?_
    refine tE.seq at1 e fun v2 y O2 φ2 H2 S2 n2 at2 w2 e => ?_
    obtain ⟨z, ez, e⟩ := Option.map_eq_some_iff.mp e
    cases e
    cases e'
    exact ⟨O2, φ2, _, x, y, _, at2.sim, w1.mono at1.sim n2, w2, ez, fun H' g => ⟨_, rfl, h O2 φ2 H' ((n1.trans at_.ow n2).trans at_.ow g.nxt) (at2.sim.gr g)⟩⟩
/-- a value that is a truth value, as a test -/
theorem pt_valW (ha : PE X a (tE C L m)) (he : ∀ whole, isTrue a X.env whole = (do let v ← whole; standAt a.pos; holding [v] (truthy v))) : PT X a (tT C L fun e S => tb (m e S)) :=
  (pt_val ha he).imp fun σ H Q ⟨O, φ, S, env, b, S', at_, e, h⟩ => by
    obtain ⟨w, SS, e, e'⟩ := bd_eq e
    refine ⟨O, φ, S, env, w, SS, at_, e, fun v O' φ' H' n sm wo => ?_⟩
    split at e'
    · cases e'
      have := wk_d wo
      cases this
      exact ⟨_, rfl, h O' φ' H' n sm⟩
    · cases e'
/-! and, or, not, if -/
theorem pe_notW (ha : PE X a (tE C L m)) : PE X (.UnaryOp .Not a pos) (tE C L fun e S => bd (tb (m e S)) fun b S => some (.d (.bool (!b)), S)) :=
  (pe_not ha).imp fun σ H Q ⟨O, φ, S, env, w, S', at_, e, h⟩ => by
    obtain ⟨b, S1, e1, e2⟩ := bd_eq e
    obtain ⟨w1, S2, e3, e4⟩ := bd_eq e1
    refine ⟨O, φ, S, env, w1, S2, at_, e3, fun v O' φ' H' n sm wo => ?_⟩
    split at e4
    · cases e4
      cases e2
      have := wk_d wo
      cases this
      exact ⟨_, rfl, h _ O' φ' H' n sm (.bl _)⟩
    · cases e4
theorem pt_notW (ha : PT X a (tT C L fun e S => tb (m e S))) : PT X (.UnaryOp .Not a pos) (tT C L fun e S => tb (bd (tb (m e S)) fun b S => some (.d (.bool (!b)), S))) :=
  (pt_not ha).imp fun σ H Q ⟨O, φ, S, env, b, S', at_, e, h⟩ => by
    obtain ⟨w, SS, e, e'⟩ := bd_eq e
    obtain ⟨b1, S1, e1, e2⟩ := bd_eq e
    cases e2
    cases e'
    exact ⟨O, φ, S, env, _, _, at_, e1, fun O' φ' H' n sm => h O' φ' H' n sm⟩
/-- and -/
def andW (m1 m2 : Env1 → Sto → Option (W × Sto)) : Env1 → Sto → Option (W × Sto) := fun e S => bd (m1 e S) fun x S => match x with
  | .d (.bool true) => m2 e S
  | .d (.bool false) => some (.d (.bool false), S)
  | _ => none
def orW (m1 m2 : Env1 → Sto → Option (W × Sto)) : Env1 → Sto → Option (W × Sto) := fun e S => bd (m1 e S) fun x S => match x with
  | .d (.bool false) => m2 e S
  | .d (.bool true) => some (.d (.bool true), S)
  | _ => none
theorem pe_andW {rest : List Expr} (ha : PE X a (tE C L m1)) (hb : PE X (.BoolOp .And (b :: rest) pos) (tE C L m2)) : PE X (.BoolOp .And (a :: b :: rest) pos) (tE C L (andW m1 m2)) :=
  (pe_and ha hb).imp fun σ H Q ⟨O, φ, S, env, w, S', at_, e, h⟩ => by
    refine tE.seq at_ e fun v1 x O1 φ1 H1 S1 n1 at1 w1 e => ?_
    split at e
    · have := wk_d w1
      cases this
      refine ⟨true, rfl, ?_⟩
      rw [if_pos rfl]
      exact tE.last at1 e fun v O' φ' H' n sm wo => h v O' φ' H' (n1.trans at_.ow n) sm wo
    · have := wk_d w1
      cases this
      cases e
      refine ⟨false, rfl, ?_⟩
      rw [if_neg Bool.false_ne_true]
      exact h _ O1 φ1 H1 n1 at1.sim (.bl _)
    · cases e
theorem pe_orW {rest : List Expr} (ha : PE X a (tE C L m1)) (hb : PE X (.BoolOp .Or (b :: rest) pos) (tE C L m2)) : PE X (.BoolOp .Or (a :: b :: rest) pos) (tE C L (orW m1 m2)) :=
  (pe_or ha hb).imp fun σ H Q ⟨O, φ, S, env, w, S', at_, e, h⟩ => by
    refine tE.seq at_ e fun v1 x O1 φ1 H1 S1 n1 at1 w1 e => ?_
    split at e
    · have := wk_d w1
      cases this
      refine ⟨false, rfl, ?_⟩
      rw [if_neg Bool.false_ne_true]
      exact tE.last at1 e fun v O' φ' H' n sm wo => h v O' φ' H' (n1.trans at_.ow n) sm wo
    · have := wk_d w1
      cases this
      cases e
      refine ⟨true, rfl, ?_⟩
      rw [if_pos rfl]
      exact h _ O1 φ1 H1 n1 at1.sim (.bl _)
    · cases e
theorem tb_some {m : Option (W × Sto)} {b : Bool} {S' : Sto} (e : tb m = some (b, S')) : m = some (.d (.bool b), S') := by
  obtain ⟨w, SS, e, e'⟩ := bd_eq e
  split at e'
  · cases e'; exact e
  · cases e'
theorem tb_of {m : Option (W × Sto)} {b : Bool} {S' : Sto} (e : m = some (.d (.bool b), S')) : tb m = some (b, S') := by rw [e]; rfl
theorem _root_.L2.PW.imp {e : Expr} {t t' : TT} (h : PW X e t) (i : ∀ σ H Q, t' σ H Q → t σ H Q) : PW X e t' := ⟨fun wh pins s σ H Q I q => h.run wh pins s σ H Q I (i σ H Q q)⟩
theorem pw_andW {rest : List Expr} (ha : PT X a (tT C L fun e S => tb (m1 e S))) (hb : PW X (.BoolOp .And (b :: rest) pos) (tT C L fun e S => tb (m2 e S))) : PW X (.BoolOp .And (a :: b :: rest) pos) (tT C L fun e S => tb (andW m1 m2 e S)) :=
  PW.imp (pw_and ha hb) fun σ H Q ⟨O, φ, S, env, bb, S', at_, e, h⟩ => by
    obtain ⟨x, S1, e1, e2⟩ := bd_eq (tb_some e)
    split at e2
    · refine ⟨O, φ, S, env, true, S1, at_, tb_of e1, fun O1 φ1 H1 n1 sm1 => ?_⟩
      show (if true = true then _ else _)
      rw [if_pos rfl]
      exact ⟨O1, φ1, S1, env, bb, S', at_.next n1 sm1, tb_of e2, fun O' φ' H' n sm => h O' φ' H' (n1.trans at_.ow n) sm⟩
    · cases e2
      refine ⟨O, φ, S, env, false, _, at_, tb_of e1, fun O1 φ1 H1 n1 sm1 => ?_⟩
      show (if false = true then _ else _)
      rw [if_neg Bool.false_ne_true]
      exact h O1 φ1 H1 n1 sm1
    · cases e2
theorem pw_orW {rest : List Expr} (ha : PT X a (tT C L fun e S => tb (m1 e S))) (hb : PW X (.BoolOp .Or (b :: rest) pos) (tT C L fun e S => tb (m2 e S))) : PW X (.BoolOp .Or (a :: b :: rest) pos) (tT C L fun e S => tb (orW m1 m2 e S)) :=
  PW.imp (pw_or ha hb) fun σ H Q ⟨O, φ, S, env, bb, S', at_, e, h⟩ => by
    obtain ⟨x, S1, e1, e2⟩ := bd_eq (tb_some e)
    split at e2
    · refine ⟨O, φ, S, env, false, S1, at_, tb_of e1, fun O1 φ1 H1 n1 sm1 => ?_⟩
      show (if false = true then _ else _)
      rw [if_neg Bool.false_ne_true]
      exact ⟨O1, φ1, S1, env, bb, S', at_.next n1 sm1, tb_of e2, fun O' φ' H' n sm => h O' φ' H' (n1.trans at_.ow n) sm⟩
    · cases e2
      refine ⟨O, φ, S, env, true, _, at_, tb_of e1, fun O1 φ1 H1 n1 sm1 => ?_⟩
      show (if true = true then _ else _)
      rw [if_pos rfl]
      exact h O1 φ1 H1 n1 sm1
    · cases e2
theorem pe_iteW (hc : PT X c (tT C L fun e S => tb (m e S))) (ha : PE X a (tE C L m1)) (hb : PE X b (tE C L m2)) : PE X (.IfExp c a b pos) (tE C L fun e S => bd (tb (m e S)) fun c S => match c with
    | true => m1 e S
    | false => m2 e S) :=
  (pe_ifExp hc ha hb).imp fun σ H Q ⟨O, φ, S, env, w, S', at_, e, h⟩ => by
    refine tT.seq at_ e fun b O1 φ1 H1 S1 n1 at1 e => ?_
    cases b with
    | true =>
      rw [if_pos rfl]
      exact tE.last at1 e fun v O' φ' H' n sm wo => h v O' φ' H' (n1.trans at_.ow n) sm wo
    | false =>
      rw [if_neg Bool.false_ne_true]
      exact tE.last at1 e fun v O' φ' H' n sm wo => h v O' φ' H' (n1.trans at_.ow n) sm wo
end
end RW
set_option Elab.async false
set_option linter.all false
set_option maxRecDepth 100000
set_option maxHeartbeats 2000000
namespace RW
open PySem PySem.W PyProof.Rows L2
variable {X : Cx} {C : DC} {L : Clo}
/-! ### the store changes -/
def Ow.add (O : Ow) (p : Addr) : Ow := fun a => O a ∨ a = p
def Ow.sub (O : Ow) (p : Addr) : Ow := fun a => O a ∧ a ≠ p
section
variable {O O' : Ow} {φ φ' : List Addr} {H H' : Hp} {S : Sto} {a p : Addr} {mo : MO} {o : HO}
theorem MoOk.step (hb : ∀ u, H a = some u → H' a = some u) (dn : ∀ vs xs, DnA C O H vs xs → DnA C O' H' vs xs) (ow : O a → O' a) (h : MoOk C O H a mo) : MoOk C O' H' a mo := by
  cases mo with
  | lst xs => obtain ⟨o, vs, e, t⟩ := h; exact ⟨ow o, vs, hb _ e, dn _ _ t⟩
  | dct b xs => cases b <;> (obtain ⟨o, vs, e, k, t⟩ := h; exact ⟨ow o, vs, hb _ e, k, dn _ _ t⟩)
  | ins c fs => obtain ⟨o, A, dx, fvs, e1, e2, k, t⟩ := h; exact ⟨ow o, A, dx, fvs, e1, hb _ e2, k, dn _ _ t⟩
  | dead => exact True.intro
theorem Sim.memφ (sm : Sim C O φ H S) (h : a ∈ φ) : ∃ u, H a = some u := sm.tr a h
/-- a new owned object -/
theorem Sim.fresh (sm : Sim C O φ H S) (hp : H p = none) (nt : ∀ vs, o ≠ .tup vs) (nb : ∀ ps, o ≠ .tbl ps) (nf : ∀ f, o ≠ .ext f := by intro f z; cases z) : Nxt O φ H (O.add p) (φ ++ [p]) (upd H p o) ∧
    (MoOk C (O.add p) (upd H p o) p mo → Sim C (O.add p) (φ ++ [p]) (upd H p o) (S ++ [mo])) ∧ (φ ++ [p])[S.length]? = some p := by
  have ne : ∀ b u, H b = some u → b ≠ p := fun b u e => ne_of_none e hp
  have nφ : p ∉ φ := fun z => by obtain ⟨u, e⟩ := sm.tr p z; rw [hp] at e; cases e
  have nx : Nxt O φ H (O.add p) (φ ++ [p]) (upd H p o) := by
    refine ⟨fun b u e _ _ => by rw [upd_ne (ne b u e)]; exact e, fun b h => ?_, fun b h _ => .inl h, fun b u e => ⟨u, by rw [upd_ne (ne b u e)]; exact e⟩, List.prefix_append _ _, fun b h => ?_, fun b ps e => ⟨#[], by rw [upd_ne (ne b _ e), e]; simp⟩⟩
    · rcases h with h | h
      · exact .inl h
      · exact .inr (h ▸ hp)
    · rcases List.mem_append.mp h with h | h
      · exact .inl h
      · rw [List.mem_singleton] at h
        exact .inr (h ▸ hp)
  have hl : (φ ++ [p])[S.length]? = some p := by rw [← sm.len]; simp
  refine ⟨nx, fun hm => ⟨by simp [sm.len], ?_, fun i mo' b e1 e2 => ?_, fun b h => ?_, fun b h => ?_, sm.tb.ext fun b u e => by rw [upd_ne (ne b u e)]; exact e⟩, hl⟩
  · rw [List.nodup_append]
    refine ⟨sm.nd, by simp, fun x hx y hy => ?_⟩
    rw [List.mem_singleton] at hy
    subst hy
    exact fun z => nφ (z ▸ hx)
  · by_cases hi : i < S.length
    · rw [List.getElem?_append_left hi] at e1
      rw [List.getElem?_append_left (by rw [sm.len]; exact hi)] at e2
      exact (sm.at_ i mo' b e1 e2).step (fun u e => by rw [upd_ne (ne b u e)]; exact e) (fun vs xs h => h.mono sm nx) .inl
    · have h2 := (List.getElem?_eq_some_iff.mp e1).1
      rw [List.length_append] at h2
      simp only [List.length_cons, List.length_nil] at h2
      have hi' : i = S.length := by omega
      subst hi'
      rw [hl] at e2
      cases e2
      have e1' : (S ++ [mo])[S.length]? = some mo := by simp
      rw [e1'] at e1
      cases e1
      exact hm
  · rcases h with h | h
    · obtain ⟨u, e, n, t⟩ := sm.ow b h
      exact ⟨u, by rw [upd_ne (ne b u e)]; exact e, n, t⟩
    · subst h
      exact ⟨o, upd_same, nt, nb, nf⟩
  · rcases List.mem_append.mp h with h | h
    · obtain ⟨u, e⟩ := sm.tr b h
      exact ⟨u, by rw [upd_ne (ne b u e)]; exact e⟩
    · rw [List.mem_singleton] at h
      subst h
      exact ⟨o, upd_same⟩
/-- an owned object is changed -/
theorem Sim.write {i : Nat} (sm : Sim C O φ H S) (hi : φ[i]? = some a) (ha : O a) (nt : ∀ vs, o ≠ .tup vs) (nb : ∀ ps, o ≠ .tbl ps) (nf : ∀ f, o ≠ .ext f := by intro f z; cases z) : Nxt O φ H O φ (upd H a o) ∧
    (MoOk C O (upd H a o) a mo → Sim C O φ (upd H a o) (S.set i mo)) := by
  have hm : a ∈ φ := List.mem_of_getElem? hi
  obtain ⟨ob, eo, no, tb, tf⟩ := sm.ow a ha
  have nx : Nxt O φ H O φ (upd H a o) := by
    refine ⟨fun b u e n _ => ?_, fun b h => .inl h, fun b h _ => h, fun b u e => ?_, List.prefix_refl _, fun b h => .inl h, fun b ps e => ?_⟩
    · have : b ≠ a := fun z => by subst z; exact n.elim (fun n => n hm) (fun n => n ha)
      rw [upd_ne this]; exact e
    · by_cases hb : b = a
      · subst hb; exact ⟨o, upd_same⟩
      · exact ⟨u, by rw [upd_ne hb]; exact e⟩
    · have : b ≠ a := fun z => by subst z; rw [eo] at e; cases e; exact tb ps rfl
      exact ⟨#[], by rw [upd_ne this, e]; simp⟩
  refine ⟨nx, fun hmo => ⟨by rw [List.length_set]; exact sm.len, sm.nd, fun j mo' b e1 e2 => ?_, fun b h => ?_, fun b h => ?_, tabs_keep sm.tb (fun b ps e => by
    have : b ≠ a := fun z => by subst z; rw [eo] at e; cases e; exact tb ps rfl
    rw [upd_ne this]; exact e) (fun b f e => by
    have : b ≠ a := fun z => by subst z; rw [eo] at e; cases e; exact tf f rfl
    rw [upd_ne this]; exact e)⟩⟩
  · by_cases hj : j = i
    · subst hj
      rw [hi] at e2; cases e2
      have := (List.getElem?_eq_some_iff.mp e1).1
      rw [List.length_set] at this
      rw [List.getElem?_set_self this] at e1
      cases e1
      exact hmo
    · have hb : b ≠ a := fun z => by
        subst z
        obtain ⟨h1, e1'⟩ := List.getElem?_eq_some_iff.mp e2
        obtain ⟨h2, e2'⟩ := List.getElem?_eq_some_iff.mp hi
        exact hj ((List.getElem_inj sm.nd).mp (e1'.trans e2'.symm))
      rw [List.getElem?_set_ne (Ne.symm hj)] at e1
      exact (sm.at_ j mo' b e1 e2).step (fun u e => by rw [upd_ne hb]; exact e) (fun vs xs h => h.mono sm nx) id
  · by_cases hb : b = a
    · subst hb; exact ⟨o, upd_same, nt, nb, nf⟩
    · obtain ⟨u, e, n, t⟩ := sm.ow b h
      exact ⟨u, by rw [upd_ne hb]; exact e, n, t⟩
  · by_cases hb : b = a
    · subst hb; exact ⟨o, upd_same⟩
    · obtain ⟨u, e⟩ := sm.tr b h
      exact ⟨u, by rw [upd_ne hb]; exact e⟩
/-- an owned list is owned no more -/
theorem Sim.freeze {i : Nat} {xs : List D} (sm : Sim C O φ H S) (hi : φ[i]? = some a) (e : S[i]? = some (.lst xs)) : Nxt O φ H (O.sub a) φ H ∧ Sim C (O.sub a) φ H (S.set i .dead) ∧ Dn C (O.sub a) H (.ref a) (.list xs) := by
  have hm : a ∈ φ := List.mem_of_getElem? hi
  obtain ⟨ha, vs, eo, t⟩ := sm.at_ i _ a e hi
  have nx : Nxt O φ H (O.sub a) φ H := ⟨fun b u e _ _ => e, fun b h => .inl h.1, fun b h n => ⟨h, fun z => n (z ▸ hm)⟩, fun b u e => ⟨u, e⟩, List.prefix_refl _, fun b h => .inl h, fun b ps e => ⟨#[], by rw [e]; simp⟩⟩
  refine ⟨nx, ⟨by rw [List.length_set]; exact sm.len, sm.nd, fun j mo' b e1 e2 => ?_, fun b h => sm.ow b h.1, sm.tr, sm.tb⟩, .list (fun z => z.2 rfl) eo (t.less fun b h => h.1)⟩
  by_cases hj : j = i
  · subst hj
    have := (List.getElem?_eq_some_iff.mp e1).1
    rw [List.length_set] at this
    rw [List.getElem?_set_self this] at e1
    cases e1
    exact True.intro
  · have hb : b ≠ a := fun z => by
      subst z
      obtain ⟨h1, e1'⟩ := List.getElem?_eq_some_iff.mp e2
      obtain ⟨h2, e2'⟩ := List.getElem?_eq_some_iff.mp hi
      exact hj ((List.getElem_inj sm.nd).mp (e1'.trans e2'.symm))
    rw [List.getElem?_set_ne (Ne.symm hj)] at e1
    exact (sm.at_ j mo' b e1 e2).step (fun u e => e) (fun vs xs h => h.less fun b h => h.1) fun h => ⟨h, hb⟩
end
/-! ### arguments, displays -/
section
variable {m m1 m2 m3 : Env1 → Sto → Option (W × Sto)} {ms : Env1 → Sto → Option (List W × Sto)} {a b c : Expr} {es : List Expr} {pos : Pos}
theorem pa_nilW : PA X [] (tA C L fun _ S => some ([], S)) := pa_nil.imp fun σ H Q ⟨O, φ, S, env, ws, S', at_, e, h⟩ => by
  cases e
  exact h [] O φ H .refl at_.sim True.intro
theorem pa_consW (ha : PE X a (tE C L m)) (hr : PA X es (tA C L ms)) (hs : starEach (a :: es) X.env = (false, eval a X.env) :: starEach es X.env) :
    PA X (a :: es) (tA C L fun e S => bd (m e S) fun x S => bd (ms e S) fun xs S => some (x :: xs, S)) :=
  (pa_cons ha hr hs).imp fun σ H Q ⟨O, φ, S, env, ws, S', at_, e, h⟩ => by
    refine tE.seq at_ e fun v1 x O1 φ1 H1 S1 n1 at1 w1 e => ?_
    refine tA.seq at1 e fun vs xs O2 φ2 H2 S2 n2 at2 w2 e => ?_
    cases e
    exact h _ O2 φ2 H2 (n1.trans at_.ow n2) at2.sim ⟨w1.mono at1.sim n2, w2⟩
theorem WsOk.app {O : Ow} {φ : List Addr} {H : Hp} : ∀ {vs vs' : List V} {ws ws' : List W}, WsOk C L O φ H vs ws → WsOk C L O φ H vs' ws' → WsOk C L O φ H (vs ++ vs') (ws ++ ws')
  | [], _, [], _, _, h => h
  | _ :: _, _, _ :: _, _, h, h' => ⟨h.1, WsOk.app h.2 h'⟩
  | [], _, _ :: _, _, h, _ => h.elim
  | _ :: _, _, [], _, h, _ => h.elim
theorem WsOk.ofD {O : Ow} {φ : List Addr} {H : Hp} : ∀ {vs : List V} {xs : List D}, DnA C O H vs xs → WsOk C L O φ H vs (xs.map .d)
  | [], [], _ => True.intro
  | _ :: _, _ :: _, .cons h t => ⟨h, WsOk.ofD t⟩
def starW (m : Env1 → Sto → Option (W × Sto)) (ms : Env1 → Sto → Option (List W × Sto)) : Env1 → Sto → Option (List W × Sto) := fun e S => bd (m e S) fun x S => match x with
    | .d (.tuple ys) => bd (ms e S) fun xs S => some (ys.map .d ++ xs, S)
    | .d (.list ys) => bd (ms e S) fun xs S => some (ys.map .d ++ xs, S)
    | _ => none
theorem pa_starW (hK : C.K = X.K) {p : Pos} (ha : PE X a (tE C L m)) (hr : PA X es (tA C L ms)) (hs : starEach (.Starred a p :: es) X.env = (true, eval a X.env) :: starEach es X.env) :
    PA X (.Starred a p :: es) (tA C L (starW m ms)) :=
  (StX.pa_star ha hr hs).imp fun σ H Q ⟨O, φ, S, env, ws, S', at_, e, h⟩ => by
    refine tE.seq at_ e fun v1 x O1 φ1 H1 S1 n1 at1 w1 e => ?_
    split at e
    · obtain ⟨p, vs, rfl, hq, t⟩ := (Rb.d (wk_d w1)).tuple hK
      refine ⟨p, vs, rfl, .inl hq, ?_⟩
      refine tA.seq at1 e fun vs xs O2 φ2 H2 S2 n2 at2 w2 e => ?_
      cases e
      exact h _ O2 φ2 H2 (n1.trans at_.ow n2) at2.sim ((WsOk.ofD (t.mono at1.sim n2)).app w2)
    · obtain ⟨p, vs, rfl, hq, t⟩ := (Rb.d (wk_d w1)).list
      refine ⟨p, vs, rfl, .inr (SqL.of hq), ?_⟩
      refine tA.seq at1 e fun vs xs O2 φ2 H2 S2 n2 at2 w2 e => ?_
      cases e
      exact h _ O2 φ2 H2 (n1.trans at_.ow n2) at2.sim ((WsOk.ofD (t.mono at1.sim n2)).app w2)
    · cases e
theorem pds_length : ∀ {ws : List W} {xs : List D}, pds ws = some xs → ws.length = xs.length
  | [], xs, e => by cases e; rfl
  | w :: ws, xs, e => by
    cases w with
    | d x =>
      obtain ⟨r, e1, rfl⟩ := Option.map_eq_some_iff.mp e
      rw [List.length_cons, List.length_cons, pds_length e1]
    | _ => cases e
theorem pe_tupW {k : Nat} (ha : PA X es (tA C L ms)) : PE X (.Tuple es k pos) (tE C L fun e S => bd (ms e S) fun ws S => ob (pds ws) fun xs => if lim xs.length then some (.d (.tuple xs), S) else none) :=
  (pe_tup ha).imp fun σ H Q ⟨O, φ, S, env, w, S', at_, e, h⟩ => by
    refine tA.seq at_ e fun vs ws O1 φ1 H1 S1 n1 at1 w1 e => ?_
    obtain ⟨xs, ex, e⟩ := ob_eq e
    split at e
    · rename_i hl
      cases e
      have t := w1.pds ex
      refine ⟨by rw [t.length]; exact lim_le hl, fun p hp => ?_⟩
      exact h _ O1 φ1 _ (n1.trans at_.ow (Gr.new hp).nxt) (at1.sim.gr (.new hp)) (Dn.newTup hp t)
    · cases e
theorem pe_lstW (ha : PA X es (tA C L ms)) : PE X (.List es pos) (tE C L fun e S => bd (ms e S) fun ws S => ob (pds ws) fun xs => if lim xs.length then some (.d (.list xs), S) else none) :=
  (pe_lst ha).imp fun σ H Q ⟨O, φ, S, env, w, S', at_, e, h⟩ => by
    refine tA.seq at_ e fun vs ws O1 φ1 H1 S1 n1 at1 w1 e => ?_
    obtain ⟨xs, ex, e⟩ := ob_eq e
    split at e
    · rename_i hl
      cases e
      have t := w1.pds ex
      refine ⟨by rw [t.length]; exact lim_le hl, fun p hp => ?_⟩
      exact h _ O1 φ1 _ (n1.trans at_.ow (Gr.new hp).nxt) (at1.sim.gr (.new hp)) (Dn.newList hp at1.ow t)
    · cases e
theorem pe_ownW (ha : PA X es (tA C L ms)) : PE X (.List es pos) (tE C L fun e S => bd (ms e S) fun ws S => ob (pds ws) fun xs => if lim xs.length then freshI S (.lst xs) else none) :=
  (pe_lst ha).imp fun σ H Q ⟨O, φ, S, env, w, S', at_, e, h⟩ => by
    refine tA.seq at_ e fun vs ws O1 φ1 H1 S1 n1 at1 w1 e => ?_
    obtain ⟨xs, ex, e⟩ := ob_eq e
    split at e
    · rename_i hl
      cases e
      have t := w1.pds ex
      refine ⟨by rw [t.length]; exact lim_le hl, fun p hp => ?_⟩
      obtain ⟨nx, sm, at2⟩ := at1.sim.fresh (mo := .lst xs) (o := .lst vs) hp (fun _ z => nomatch z) fun _ z => nomatch z
      exact h _ _ _ _ (n1.trans at_.ow nx) (sm ⟨.inr rfl, vs, upd_same, t.mono at1.sim nx⟩) ⟨p, at2, rfl⟩
    · cases e
theorem pe_dic0W {t : Bool} : PE X (.Dict [] [] pos) (tE C L fun _ S => freshI S (.dct t [])) := by
  cases t with
  | false =>
    exact pe_dnewK.imp fun σ H Q ⟨O, φ, S, env, w, S', at_, e, h⟩ => by
      cases e
      intro p hp
      obtain ⟨nx, sm, at2⟩ := at_.sim.fresh (mo := .dct false []) (o := .dK []) hp (fun _ z => nomatch z) fun _ z => nomatch z
      exact h _ _ _ _ nx (sm ⟨.inr rfl, [], upd_same, rfl, .nil⟩) ⟨p, at2, rfl⟩
  | true =>
    exact pe_dnewT.imp fun σ H Q ⟨O, φ, S, env, w, S', at_, e, h⟩ => by
      cases e
      intro p hp
      obtain ⟨nx, sm, at2⟩ := at_.sim.fresh (mo := .dct true []) (o := .dT []) hp (fun _ z => nomatch z) fun _ z => nomatch z
      exact h _ _ _ _ nx (sm ⟨.inr rfl, [], upd_same, rfl, .nil⟩) ⟨p, at2, rfl⟩
/-! ### subscripts, slices -/
def subWW (m1 m2 : Env1 → Sto → Option (W × Sto)) : Env1 → Sto → Option (W × Sto) := fun e S => bd (m1 e S) fun x S => bd (m2 e S) fun y S => match x, y with
    | .refs l, .d (.int j) => ob (ixD l.length j) fun j => (l[j]?).map fun r => (.ref r, S)
    | .scr l, .d (.int j) => ob (ixD l.length j) fun j => (l[j]?).map fun r => (.d (.int r), S)
    | x, y => (subW S x y).map fun z => (.d z, S)
/-- by values -/
def rSub (C : DC) (L : Clo) : R2 := fun vx vy H Q => ∃ (O : Ow) (φ : List Addr) (S : Sto) (x y w : W) (S' : Sto), Sim C O φ H S ∧ WOk C L O φ H vx x ∧ WOk C L O φ H vy y ∧ (match x, y with
    | .refs l, .d (.int j) => ob (ixD l.length j) fun j => (l[j]?).map fun r => (.ref r, S)
    | .scr l, .d (.int j) => ob (ixD l.length j) fun j => (l[j]?).map fun r => (.d (.int r), S)
    | x, y => (subW S x y).map fun z => (.d z, S)) = some (w, S') ∧ ∀ v H', S' = S → Gr H H' → WOk C L O φ H' v w → Q v H'
theorem ix_W (hK : C.K = X.K) (hu : X.A.units + 64 < cLine) : IxR X (rSub C L) := by
  intro value slice pins s σ H vx vy v u Q I rx ry ⟨O, φ, S, x, y, w, S', sm, wx, wy, e, q⟩ hs
  split at e
  · rename_i l j
    obtain ⟨k, e1, e2⟩ := ob_eq e
    obtain ⟨r, e3, e4⟩ := Option.map_eq_some_iff.mp e2
    cases e4
    obtain ⟨a, as, rfl, no, ha, m⟩ := wx
    have hw := wk_d wy
    cases hw
    have el : (as.map V.ref).length = l.length := by
      have := congrArg List.length m
      simpa using this.symm
    have er : (l.map fun i => φ[i]?)[k]? = some (φ[r]?) := by rw [List.getElem?_map, e3]; rfl
    rw [m, List.getElem?_map] at er
    obtain ⟨b, eb, er⟩ := Option.map_eq_some_iff.mp er
    exact ix_list value slice pins s σ H _ _ v u Q I rx ry ⟨a, _, _, .ref b, rfl, rfl, SqL.of ha, atI_of e1 el (by rw [List.getElem?_map, eb]; rfl), q _ H rfl .refl ⟨b, er.symm, rfl⟩⟩ hs
  · rename_i l j
    obtain ⟨k, e1, e2⟩ := ob_eq e
    obtain ⟨r, e3, e4⟩ := Option.map_eq_some_iff.mp e2
    cases e4
    obtain ⟨a, rfl, ha⟩ := wx
    have hw := wk_d wy
    cases hw
    have hq : SqL X.K H a (l.map V.int) := by
      rcases ha with ((z | ⟨_, z⟩) | z) | ⟨u, _, z, rfl | ⟨o, rfl⟩⟩
      · cases z
      · cases z
      · exact .inr (hK ▸ z)
      · exact .inl (.inl z)
      · exact .inl (.inr ⟨o, z⟩)
    exact ix_list value slice pins s σ H _ _ v u Q I rx ry ⟨a, _, _, .int r, rfl, rfl, hq, atI_of e1 (by simp) (by rw [List.getElem?_map, e3]; rfl), q _ H rfl .refl (.int r)⟩ hs
  · obtain ⟨z, e1, e2⟩ := Option.map_eq_some_iff.mp e
    cases e2
    unfold subW at e1
    split at e1
    · rename_i hd
      obtain ⟨i, rfl, _⟩ := isDct_ref hd
      obtain ⟨oo, e3, rfl⟩ := ob_eq e1
      obtain ⟨a, rfl, g⟩ := own_look sm wx wy e3
      rcases g with ⟨z, _⟩ | ⟨w, d, z, g, dn⟩
      · cases z
      · cases z
        cases rx
        have ty : s.TypeIs (.ref a) "dict" := by
          rcases g with ⟨kvs, k, e, _⟩ | ⟨kvs, k, b, e, _⟩
          · rcases e with e | ⟨o, e⟩
            · obtain ⟨_, _, vs, _, o, es, ep, h1, h2, _⟩ := (show ObjOk X.prog X.w H s.heap a (.dK kvs) from I.hok a _ e)
              exact ⟨o, h1, h2.1⟩
            · obtain ⟨_, _, _, vs, _, o, es, ep, h1, h2, _⟩ := (show ObjOk X.prog X.w H s.heap a (.frz o (.dK kvs)) from I.hok a _ e)
              exact ⟨o, h1, h2.1⟩
          · rcases e with e | ⟨o, e⟩
            · obtain ⟨_, _, vs, _, o, es, ep, h1, h2, _⟩ := (show ObjOk X.prog X.w H s.heap a (.dT kvs) from I.hok a _ e)
              exact ⟨o, h1, h2.1⟩
            · obtain ⟨_, _, _, vs, _, o, es, ep, h1, h2, _⟩ := (show ObjOk X.prog X.w H s.heap a (.frz o (.dT kvs)) from I.hok a _ e)
              exact ⟨o, h1, h2.1⟩
        exact tail_any ty slot_dict_getitem.lookup (d_getItem (by omega) I g ry fun w' s' I' r' => ⟨w, H, I', r', q w H rfl .refl dn⟩) hs
    · obtain ⟨dx, ex, e3⟩ := ob_eq e1
      obtain ⟨dy, ey, e4⟩ := ob_eq e3
      obtain rfl : y = .d dy := by
        cases y <;> simp [pd] at ey
        rw [ey]
      exact ix_D hK hu value slice pins s σ H vx vy v u Q I rx ry ⟨O, dx, dy, z, fun a h => let ⟨o, e, _⟩ := sm.ow a h; ⟨o, e⟩, wx.rd sm ex, .d (wk_d wy), e4, fun vz H' g d => q vz H' rfl g d⟩ hs
theorem pe_subW (hK : C.K = X.K) (hu : X.A.units + 64 < cLine) (ha : PE X a (tE C L m1)) (hb : PE X b (tE C L m2)) (hs : PlainIx b) : PE X (.Subscript a b pos) (tE C L (subWW m1 m2)) :=
  (pe_ix (ix_W hK hu) ha hb hs).imp fun σ H Q ⟨O, φ, S, env, w, S', at_, e, h⟩ => by
    refine tE.seq at_ e fun v1 x O1 φ1 H1 S1 n1 at1 w1 e => ?_
    refine tE.seq at1 e fun v2 y O2 φ2 H2 S2 n2 at2 w2 e => ?_
    refine ⟨O2, φ2, S2, x, y, w, S', at2.sim, w1.mono at1.sim n2, w2, e, fun v H' es g wo => ?_⟩
    subst es
    exact h v O2 φ2 H' ((n1.trans at_.ow n2).trans at_.ow g.nxt) (at2.sim.gr g) wo
theorem po_noneW : PO X none (tO C L fun _ S => some (none, S)) := ⟨fun pins s σ H Q I ⟨O, φ, S, env, o, S', at_, e, h⟩ => by
  cases e
  exact po_none.run pins s σ H Q I (h O φ H .refl at_.sim none rfl)⟩
theorem po_someW (ha : PE X a (tE C L m)) : PO X (some a) (tO C L fun e S => bd (m e S) fun x S => match x with
    | .d (.int i) => some (some (.int i), S)
    | _ => none) := ⟨fun pins s σ H Q I ⟨O, φ, S, env, o, S', at_, e, h⟩ => by
  refine (po_some ha).run pins s σ H Q I ?_
  refine tE.seq at_ e fun v1 x O1 φ1 H1 S1 n1 at1 w1 e => ?_
  split at e
  · rename_i i
    cases e
    have := wk_d w1
    cases this
    exact ⟨i, rfl, h O1 φ1 H1 n1 at1.sim (some i) rfl⟩
  · cases e⟩
end
end RW
set_option Elab.async false
set_option linter.all false
set_option maxRecDepth 100000
set_option maxHeartbeats 2000000
namespace RW
open PySem PySem.W PyProof.Rows L2
variable {X : Cx} {C : DC} {L : Clo}
/-! ### side conditions read off the text -/
def notStar : Expr → Bool
  | .Starred _ _ => false
  | _ => true
def notSl : Expr → Bool
  | .Slice _ _ _ _ => false
  | _ => true
def notSet : Expr → Bool
  | .Set _ _ _ => false
  | _ => true
def notLc : Expr → Bool
  | .ListComp _ _ _ _ => false
  | .SetComp _ _ _ _ => false
  | .DictComp _ _ _ _ _ => false
  | _ => true
def attOk : Expr → Bool
  | .Call (.Name _ _) [] [] _ => false
  | _ => true
def plainT : Expr → Bool
  | .UnaryOp .Not _ _ => false
  | .BoolOp _ _ _ => false
  | .IfExp _ _ _ _ => false
  | .Compare _ _ _ _ => false
  | _ => true
theorem star_of {a : Expr} {es : List Expr} {env : Env} (h : notStar a = true) : starEach (a :: es) env = (false, eval a env) :: starEach es env := by
  cases a <;> first | rfl | cases h
theorem stars_of {env : Env} : ∀ {es : List Expr}, es.all notStar = true → starEach es env = es.map fun e => (false, eval e env)
  | [], _ => rfl
  | a :: es, h => by
    rw [List.all_cons, Bool.and_eq_true] at h
    rw [star_of h.1, stars_of h.2]; rfl
theorem back_any {env : Env} {pos : Pos} : ∀ {es : List Expr}, es.all notStar = true → (backTo pos (starEach es env)).any (·.1) = false
  | [], _ => rfl
  | a :: es, h => by
    rw [List.all_cons, Bool.and_eq_true] at h
    rw [star_of h.1]
    show (false || (backTo pos (starEach es env)).any (·.1)) = false
    rw [back_any h.2]; rfl
theorem plainIx_of {b : Expr} (h : notSl b = true) : PlainIx b := by
  intro o i
  cases b <;> first | rfl | cases h
theorem in_of {o : CmpOp} {b : Expr} (h : notSet b = true) : behindInMarks o b = false := by
  cases b <;> first | rfl | cases h
theorem fold_of {e : Expr} {env : Env} {x : Value} (h : notSet e = true) : foldedSetIterable e env x = pure x := by
  cases e <;> first | rfl | cases h
theorem sw_none {e : Expr} {t : Option Expr} {n : Nat} {env : Env} (h : notLc e = true) : swapsWith e t n env = pure false := by
  cases e <;> first | rfl | cases h
theorem att_of {o : Expr} {m : Str} {env : Env} (h : attOk o = true) : attributeBase o m env (eval o env) = eval o env := by
  unfold attributeBase
  split
  · cases h
  · rfl
theorem plainT_of {e : Expr} {env : Env} (h : plainT e = true) : ∀ whole, isTrue e env whole = (do let v ← whole; standAt e.pos; holding [v] (truthy v)) := by
  intro whole
  cases e with
  | UnaryOp o a p => cases o <;> first | rfl | cases h
  | BoolOp _ _ _ => cases h
  | IfExp _ _ _ _ => cases h
  | Compare _ _ _ _ => cases h
  | _ => rfl
/-! ### slices, turned round -/
section
variable {m m1 m2 m3 : Env1 → Sto → Option (W × Sto)} {ms : Env1 → Sto → Option (List W × Sto)} {mo1 mo2 : Env1 → Sto → Option (Option D × Sto)} {a b c : Expr} {es : List Expr} {pos : Pos}
theorem tO.seq {mo : Env1 → Sto → Option (Option D × Sto)} {O : Ow} {φ : List Addr} {H : Hp} {σ : L2.St} {env : Env1} {S : Sto} {α : Type} {f : Option D → Sto → Option α} {z : α} {Q : Option Int → Hp → Prop} (a : At C L O φ H σ env S) (e : bd (mo env S) f = some z)
    (h : ∀ i O' φ' H' S', Nxt O φ H O' φ' H' → At C L O' φ' H' σ env S' → f (i.map .int) S' = some z → Q i H') : tO C L mo σ H Q := by
  obtain ⟨w, S', e1, e2⟩ := bd_eq e
  exact ⟨O, φ, S, env, w, S', a, e1, fun O' φ' H' n sm i ei => h i O' φ' H' S' n (a.next n sm) (ei ▸ e2)⟩
theorem WOk.rdS {O : Ow} {φ : List Addr} {H : Hp} {S : Sto} (sm : Sim C O φ H S) {v : V} {w : W} {x : D} (h : WOk C L O φ H v w) (e : rdS S w = some x) : Rb C O H v x ∨ ∃ (a : Addr) (l : List Int), v = .ref a ∧ x = .list (l.map .int) ∧ (SqL C.K (fun _ => none) a (l.map V.int) ∨ ∃ u, ¬ O a ∧ H a = some u ∧ (u = .lst (l.map V.int) ∨ ∃ o, u = .frz o (.lst (l.map V.int)))) := by
  cases w with
  | scr l =>
    simp only [RW.rdS, Option.some.injEq] at e
    subst e
    obtain ⟨a, rfl, q⟩ := h
    exact .inr ⟨a, l, rfl, rfl, q⟩
  | d y => exact .inl (h.rd sm e)
  | ref i => exact .inl (h.rd sm e)
  | refs l => exact .inl (h.rd sm e)
  | clo k cs => exact .inl (h.rd sm e)
  | drefs l => exact .inl (h.rd sm e)
theorem DnA.ofInts {O : Ow} {H : Hp} : ∀ l : List Int, DnA C O H (l.map V.int) (l.map .int)
  | [] => .nil
  | i :: l => .cons (.int i) (DnA.ofInts l)
/-- a slice by values, the script's too -/
def rSlW (C : DC) (L : Clo) : V → Option Int → Option Int → Hp → VK → Prop := fun v lo hi H Q => ∃ (O : Ow) (φ : List Addr) (S : Sto) (w : W) (x z : D), Sim C O φ H S ∧ WOk C L O φ H v w ∧ rdS S w = some x ∧ slcD x (lo.map .int) (hi.map .int) = some z ∧ ∀ vz H', Gr H H' → Dn C O H' vz z → Q vz H'
theorem sl_W (hK : C.K = X.K) : SlR X (rSlW C L) := by
  intro pins s σ H x v vl vu lo hi sl Q I rx hs pl pu ⟨O, φ, S, w, y, z, sm, wo, ey, e, q⟩
  have ow : ∀ a, O a → ∃ o, H a = some o := fun a h => let ⟨o, e, _⟩ := sm.ow a h; ⟨o, e⟩
  rcases wo.rdS sm ey with h | ⟨a, l, rfl, rfl, h⟩
  · exact sl_D hK pins s σ H x v vl vu lo hi sl Q I rx hs pl pu ⟨O, y, z, ow, h, e, q⟩
  · unfold slcD at e
    simp only at e
    obtain ⟨i, e1, e⟩ := ob_eq e
    obtain ⟨j, e2, e⟩ := ob_eq e
    cases e
    have hq : SqL X.K H a (l.map V.int) := by
      rcases h with ((z | ⟨_, z⟩) | z) | ⟨u, _, z, rfl | ⟨o, rfl⟩⟩
      · cases z
      · cases z
      · exact .inr (hK ▸ z)
      · exact .inl (.inl z)
      · exact .inl (.inr ⟨o, z⟩)
    have el : (l.map (PyData.int)).length = (l.map V.int).length := by simp
    rw [el] at e1 e2
    refine sl_list pins s σ H _ v vl vu lo hi sl Q I rx hs pl pu ⟨a, _, rfl, hq, fun p hp => q _ _ (.new hp) (Dn.newList hp ow ?_)⟩
    rw [cutV_eq, bound_sIx e1, bound_sIx e2]
    exact ((DnA.ofInts l).drop _).take _
theorem pe_slcW (hK : C.K = X.K) {p2 : Pos} {lo hi : Option Expr} (ha : PE X a (tE C L m)) (hl : PO X lo (tO C L mo1)) (hh : PO X hi (tO C L mo2)) :
    PE X (.Subscript a (.Slice lo hi none p2) pos) (tE C L fun e S => bd (m e S) fun x S => bd (mo1 e S) fun i S => bd (mo2 e S) fun j S => ob (rdS S x) fun x => (slcD x i j).map fun z => (.d z, S)) :=
  (pe_slice (sl_W hK) ha hl hh).imp fun σ H Q ⟨O, φ, S, env, w, S', at_, e, h⟩ => by
    refine tE.seq at_ e fun v1 x O1 φ1 H1 S1 n1 at1 w1 e => ?_
    refine tO.seq at1 e fun i O2 φ2 H2 S2 n2 at2 e => ?_
    refine tO.seq at2 e fun j O3 φ3 H3 S3 n3 at3 e => ?_
    obtain ⟨dx, ex, e⟩ := ob_eq e
    obtain ⟨z, ez, e⟩ := Option.map_eq_some_iff.mp e
    cases e
    have n13 := n2.trans at1.ow n3
    exact ⟨O3, φ3, _, x, dx, z, at3.sim, w1.mono at1.sim n13, ex, ez, fun vz H' g d => h vz O3 φ3 H' ((n1.trans at_.ow n13).trans at_.ow g.nxt) (at3.sim.gr g) d⟩
theorem pe_revW (hK : C.K = X.K) {k : Nat} {p1 p2 p3 : Pos} (ha : PE X a (tE C L m)) : PE X (.Subscript a (.Slice none none (some (.UnaryOp .USub (.Constant (.int 1) k p1) p2)) p3) pos)
    (tE C L fun e S => bd (m e S) fun x S => ob (pd x) fun x => (revD x).map fun z => (.d z, S)) :=
  (pe_revD hK ha).imp fun σ H Q ⟨O, φ, S, env, w, S', at_, e, h⟩ => by
    refine tE.seq at_ e fun v1 x O1 φ1 H1 S1 n1 at1 w1 e => ?_
    obtain ⟨dx, ex, e⟩ := ob_eq e
    obtain ⟨z, ez, e⟩ := Option.map_eq_some_iff.mp e
    cases e
    obtain rfl : x = .d dx := by
      cases x <;> simp [pd] at ex
      rw [ex]
    exact ⟨O1, dx, z, at1.ow, .d (wk_d w1), ez, fun vz H' g d => h vz O1 φ1 H' (n1.trans at_.ow g.nxt) (at1.sim.gr g) d⟩
/-! ### built-ins called -/
theorem WsOk.rds {O : Ow} {φ : List Addr} {H : Hp} {S : Sto} (sm : Sim C O φ H S) : ∀ {vs : List V} {ws : List W} {xs : List D}, WsOk C L O φ H vs ws → ws.mapM (rd S) = some xs → RbA C O H vs xs
  | [], [], xs, _, e => by
    simp only [List.mapM_nil] at e
    cases e
    exact .nil
  | v :: vs, w :: ws, xs, h, e => by
    rw [List.mapM_cons] at e
    cases e1 : rd S w with
    | none => rw [e1] at e; cases e
    | some x =>
      rw [e1] at e
      cases e2 : ws.mapM (rd S) with
      | none => simp [e2] at e
      | some ys =>
        simp only [e2] at e
        cases e
        exact .cons (h.1.rd sm e1) (WsOk.rds sm h.2 e2)
  | [], _ :: _, _, h, _ => h.elim
  | _ :: _, [], _, h, _ => h.elim
/-- a built-in by a function on data, as the interpreter calls it -/
def biW (f : List D → Option D) (ms : Env1 → Sto → Option (List W × Sto)) : Env1 → Sto → Option (W × Sto) := fun e S => bd (ms e S) fun ws S => ob (ws.mapM (rd S)) fun xs => (f xs).map fun z => (.d z, S)
theorem tCB_W {f : List D → Option D} {σ : L2.St} {H : Hp} {Q : VK} (h : tE C L (biW f ms) σ H Q) : tCB (rC C f) (tA C L ms) σ H Q := by
  obtain ⟨O, φ, S, env, w, S', at_, e, h⟩ := h
  refine tA.seq at_ e fun vs ws O1 φ1 H1 S1 n1 at1 w1 e => ?_
  obtain ⟨xs, ex, e⟩ := ob_eq e
  obtain ⟨z, ez, e⟩ := Option.map_eq_some_iff.mp e
  cases e
  exact ⟨O1, xs, z, at1.ow, w1.rds at1.sim ex, ez, fun vz H' g d => h vz O1 φ1 H' (n1.trans at_.ow g.nxt) (at1.sim.gr g) d⟩
theorem pe_biB {f : List D → Option D} {id : String} {x : Str} {p : Pos} {e0 : Expr} (hc : CallR X (.builtin id) (rC C f)) (hg : Gl X x) (hm : X.mg x = none) (hv : bootBuiltins x = some (.builtin id)) (ha : PA X (e0 :: es) (tA C L ms)) (hst : (e0 :: es).all notStar = true)
    (hn : x ≠ "__name__") (hdb : (x == ("__debug__" : Str)) = false) : PE X (.Call (.Name x p) (e0 :: es) [] pos) (tE C L (biW f ms)) := by
  rw [List.all_cons, Bool.and_eq_true] at hst
  exact (pe_callB hc hg hm hv ha hn hdb (star_of hst.1) (back_any hst.2)).imp fun σ H Q h => tCB_W h
theorem pe_biT {f : List D → Option D} {id : String} {x : Str} {p : Pos} {e0 : Expr} (hc : CallR X (.type id) (rC C f)) (hg : Gl X x) (hm : X.mg x = none) (hv : bootBuiltins x = some (.type id)) (ha : PA X (e0 :: es) (tA C L ms)) (hst : (e0 :: es).all notStar = true)
    (hn : x ≠ "__name__") (hdb : (x == ("__debug__" : Str)) = false) : PE X (.Call (.Name x p) (e0 :: es) [] pos) (tE C L (biW f ms)) := by
  rw [List.all_cons, Bool.and_eq_true] at hst
  exact (pe_callTy hc hg hm hv ha hn hdb (star_of hst.1) (back_any hst.2)).imp fun σ H Q h => tCB_W h
/-- len, of the script and of lists of owned things, too -/
def lenW (ms : Env1 → Sto → Option (List W × Sto)) : Env1 → Sto → Option (W × Sto) := fun e S => bd (ms e S) fun ws S => match ws with
  | [.refs l] => some (.d (.int l.length), S)
  | [.scr l] => some (.d (.int l.length), S)
  | ws => ob (ws.mapM (rd S)) fun xs => (bLen xs).map fun z => (.d z, S)
def rLenW (C : DC) (L : Clo) : List V → Hp → VK → Prop := fun vs H Q => ∃ (O : Ow) (φ : List Addr) (S : Sto) (ws : List W) (w : W) (S' : Sto), Sim C O φ H S ∧ WsOk C L O φ H vs ws ∧ (match ws with
  | [.refs l] => some (.d (.int l.length), S)
  | [.scr l] => some (.d (.int l.length), S)
  | ws => ob (ws.mapM (rd S)) fun xs => (bLen xs).map fun z => (.d z, S)) = some (w, S') ∧ ∀ v H', S' = S → Gr H H' → WOk C L O φ H' v w → Q v H'
theorem call_lenW (hK : C.K = X.K) : CallR X (.builtin "len") (rLenW C L) := by
  intro pins s σ H vs us Q I r ⟨O, φ, S, ws, w, S', sm, wo, e, q⟩
  have one : ∀ {vs : List V} {w : W}, WsOk C L O φ H vs [w] → ∃ v, vs = [v] ∧ WOk C L O φ H v w := fun {vs w} h => by
    match vs, h with
    | [v], h => exact ⟨v, rfl, h.1⟩
  split at e
  · rename_i l
    cases e
    obtain ⟨v, rfl, wv⟩ := one wo
    obtain ⟨a, as, rfl, no, ha, m⟩ := wv
    have el : (as.map V.ref).length = l.length := by
      have := congrArg List.length m
      simpa using this.symm
    exact call_len pins s σ H _ us Q I r ⟨_, _, rfl, .inl ⟨_, SqL.of ha, el.symm⟩, q _ H rfl .refl (.int _)⟩
  · rename_i l
    cases e
    obtain ⟨v, rfl, wv⟩ := one wo
    obtain ⟨a, rfl, ha⟩ := wv
    have hq : SqL X.K H a (l.map V.int) := by
      rcases ha with ((z | ⟨_, z⟩) | z) | ⟨u, _, z, rfl | ⟨o, rfl⟩⟩
      · cases z
      · cases z
      · exact .inr (hK ▸ z)
      · exact .inl (.inl z)
      · exact .inl (.inr ⟨o, z⟩)
    exact call_len pins s σ H _ us Q I r ⟨_, _, rfl, .inl ⟨_, hq, by simp⟩, q _ H rfl .refl (.int _)⟩
  · obtain ⟨xs, ex, e⟩ := ob_eq e
    obtain ⟨z, ez, e⟩ := Option.map_eq_some_iff.mp e
    cases e
    exact call_lenB hK pins s σ H vs us Q I r ⟨O, xs, z, fun a h => let ⟨o, e, _⟩ := sm.ow a h; ⟨o, e⟩, wo.rds sm ex, ez, fun vz H' g d => q vz H' rfl g d⟩
theorem pe_lenW (hK : C.K = X.K) {p : Pos} {e0 : Expr} (hg : Gl X "len") (hm : X.mg "len" = none) (ha : PA X (e0 :: es) (tA C L ms)) (hst : (e0 :: es).all notStar = true) : PE X (.Call (.Name "len" p) (e0 :: es) [] pos) (tE C L (lenW ms)) := by
  rw [List.all_cons, Bool.and_eq_true] at hst
  exact (pe_callB (call_lenW (C := C) (L := L) hK) hg hm boot_len ha (by decide) (by decide) (star_of hst.1) (back_any hst.2)).imp fun σ H Q ⟨O, φ, S, env, w, S', at_, e, h⟩ => by
    refine tA.seq at_ e fun vs ws O1 φ1 H1 S1 n1 at1 w1 e => ?_
    refine ⟨O1, φ1, S1, ws, w, S', at1.sim, w1, e, fun v H' es g wo => ?_⟩
    subst es
    exact h v O1 φ1 H' (n1.trans at_.ow g.nxt) (at1.sim.gr g) wo
/-- isinstance(e, T) -/
theorem pe_isW (hK : C.K = X.K) (ok : DCok C) {t : String} {p : Pos} {c : Expr} {vc : V} (hg : Gl X "isinstance") (hm : X.mg "isinstance" = none) (ha : PE X a (tE C L m)) (hc : PE X c (tC vc)) (hv : IsCls C t vc) (hst : notStar a = true) (hst2 : notStar c = true) :
    PE X (.Call (.Name "isinstance" p) [a, c] [] pos) (tE C L fun e S => bd (m e S) fun x S => ob (rd S x) fun x => (isD t x).map fun b => (.d (.bool b), S)) :=
  (pe_callB (call_isB hK ok) hg hm PyProof.Rows.boot_isinstance (pa_cons ha (pa_cons hc pa_nil (star_of hst2)) (star_of hst)) (by decide) (by decide) (star_of hst) (back_any (by simp [hst2]))).imp fun σ H Q ⟨O, φ, S, env, w, S', at_, e, h⟩ => by
    refine tE.seq at_ e fun v1 x O1 φ1 H1 S1 n1 at1 w1 e => ?_
    obtain ⟨dx, ex, e⟩ := ob_eq e
    obtain ⟨b, eb, e⟩ := Option.map_eq_some_iff.mp e
    cases e
    exact ⟨O1, v1, vc, dx, t, b, rfl, w1.rd at1.sim ex, hv, eb, h _ O1 φ1 H1 n1 at1.sim (.bl _)⟩
/-- list(range(n)) -/
theorem pe_lrgW {p p2 : Pos} {pos2 : Pos} (hc : X.calm = true) (hg : Gl X "list") (hm : X.mg "list" = none) (hg2 : Gl X "range") (hm2 : X.mg "range" = none) (ha : PE X a (tE C L m)) (hst : notStar a = true) :
    PE X (.Call (.Name "list" p) [.Call (.Name "range" p2) [a] [] pos2] [] pos) (tE C L fun e S => bd (m e S) fun x S => match x with
      | .d (.int j) => if small62 j && lim j.toNat then some (.d (.list (rangeL 0 j)), S) else none
      | _ => none) :=
  (pe_listRg hc hg hm (prg_1 hg2 hm2 ha (star_of hst))).imp fun σ H Q ⟨O, φ, S, env, w, S', at_, e, h⟩ => by
    refine tE.seq at_ e fun v1 x O1 φ1 H1 S1 n1 at1 w1 e => ?_
    split at e
    · rename_i j
      split at e
      · rename_i hl
        cases e
        have := wk_d w1
        cases this
        rw [Bool.and_eq_true] at hl
        have h1 : -(2 ^ 62) ≤ j ∧ j < 2 ^ 62 := of_decide_eq_true hl.1
        have h2 : j.toNat ≤ LIM := of_decide_eq_true hl.2
        have h3 : LIM = 16000000 := rfl
        refine ⟨j, rfl, ⟨by omega, by omega, by omega, by omega, by rw [Int.sub_zero]; omega⟩, fun q hq => ?_⟩
        refine h _ O1 φ1 _ (n1.trans at_.ow (Gr.new hq).nxt) (at1.sim.gr (.new hq)) (Dn.newList hq at1.ow ?_)
        unfold rgV rangeL
        exact DnA.of_all (fun i => .int _) _
      · cases e
    · cases e
end
end RW
set_option Elab.async false
set_option linter.all false
set_option maxRecDepth 100000
set_option maxHeartbeats 2000000
namespace RW
open PySem PySem.W PyProof.Rows L2
variable {X : Cx} {C : DC} {L : Clo}
/-! ### methods of built-in types -/
def meE (me : Me) (m : Env1 → Sto → Option (W × Sto)) (ms : Env1 → Sto → Option (List W × Sto)) : Env1 → Sto → Option (W × Sto) := fun e S => bd (m e S) fun x S => if meTy me S x then bd (ms e S) fun ws S => meW me S x ws else none
/-- what a method's rule has to answer -/
def MeR (X : Cx) (C : DC) (L : Clo) (me : Me) (r : V → List V → Hp → VK → Prop) : Prop := ∀ (O : Ow) (φ : List Addr) (H : Hp) (S : Sto) (v : V) (vs : List V) (x : W) (ws : List W) (w : W) (S' : Sto) (Q : VK), Sim C O φ H S → WOk C L O φ H v x → WsOk C L O φ H vs ws → meW me S x ws = some (w, S') →
  (∀ v O' φ' H', Nxt O φ H O' φ' H' → Sim C O' φ' H' S' → WOk C L O' φ' H' v w → Q v H') → r v vs H Q
theorem meTy_list {O : Ow} {φ : List Addr} {H : Hp} {S : Sto} {v : V} {x : W} {me : Me} (hme : me ≠ .split ∧ me ≠ .get2) (sm : Sim C O φ H S) (wo : WOk C L O φ H v x) (h : meTy me S x = true) : tyV X.K "list" v H := by
  have h' : (match rd S x with | some (.list _) => true | _ => false) = true := by
    cases me <;> first | exact h | exact absurd rfl hme.1 | exact absurd rfl hme.2
  split at h'
  · rename_i xs e
    obtain ⟨a, vs, rfl, ha, _⟩ := (wo.rd sm e).list
    exact Or.inl ⟨rfl, vs, SqL.of ha⟩
  · cases h'
theorem meTy_str {O : Ow} {φ : List Addr} {H : Hp} {S : Sto} {v : V} {x : W} (sm : Sim C O φ H S) (wo : WOk C L O φ H v x) (h : meTy .split S x = true) : tyV X.K "str" v H := by
  unfold meTy at h
  simp only at h
  split at h
  · have := wk_d wo
    cases this
    rfl
  · cases h
section
variable {m m1 m2 m3 : Env1 → Sto → Option (W × Sto)} {ms : Env1 → Sto → Option (List W × Sto)} {a b c o e0 : Expr} {es : List Expr} {pos apos cpos : Pos} {T id : String} {name : Str} {me : Me} {r : V → List V → Hp → VK → Prop}
theorem pe_meW (pa : PlainAttrs T) (slot : Slot T name id) (hty : typeOf (.builtin id) = pure (.type "method_descriptor")) (hm : MtR X id r) (ho : PE X o (tE C L m)) (ha : PA X [e0] (tA C L ms))
    (hy : ∀ (O : Ow) (φ : List Addr) (H : Hp) (S : Sto) (v : V) (x : W), Sim C O φ H S → WOk C L O φ H v x → meTy me S x = true → tyV X.K T v H) (hr : MeR X C L me r)
    (hb : attOk o = true) (hl : (apos.endLine == cpos.line) = true) (hst : notStar e0 = true) : PE X (.Call (.Attribute o name apos) [e0] [] cpos) (tE C L (meE me m ms)) :=
  (pe_bm pa slot hty hm ho ha (att_of hb) (by rw [star_of hst]; rfl) hl (star_of hst) rfl).imp fun σ H Q ⟨O, φ, S, env, w, S', at_, e, h⟩ => by
    refine tE.seq at_ e fun v1 x O1 φ1 H1 S1 n1 at1 w1 e => ?_
    split at e
    · rename_i ty
      refine ⟨hy O1 φ1 H1 S1 v1 x at1.sim w1 ty, ?_⟩
      refine tA.seq at1 e fun vs ws O2 φ2 H2 S2 n2 at2 w2 e => ?_
      exact hr O2 φ2 H2 S2 v1 vs x ws w S' Q at2.sim (w1.mono at1.sim n2) w2 e fun v O' φ' H' n sm wo => h v O' φ' H' ((n1.trans at_.ow n2).trans at_.ow n) sm wo
    · cases e
theorem pe_meW0 (pa : PlainAttrs T) (slot : Slot T name id) (hty : typeOf (.builtin id) = pure (.type "method_descriptor")) (hm : MtR X id r) (ho : PE X o (tE C L m))
    (hy : ∀ (O : Ow) (φ : List Addr) (H : Hp) (S : Sto) (v : V) (x : W), Sim C O φ H S → WOk C L O φ H v x → meTy me S x = true → tyV X.K T v H) (hr : MeR X C L me r)
    (hb : attOk o = true) (hl : (apos.endLine == cpos.line) = true) : PE X (.Call (.Attribute o name apos) [] [] cpos) (tE C L (meE me m fun _ S => some ([], S))) :=
  (pe_bm0 pa slot hty hm ho (att_of hb) hl).imp fun σ H Q ⟨O, φ, S, env, w, S', at_, e, h⟩ => by
    refine tE.seq at_ e fun v1 x O1 φ1 H1 S1 n1 at1 w1 e => ?_
    split at e
    · rename_i ty
      refine ⟨hy O1 φ1 H1 S1 v1 x at1.sim w1 ty, ?_⟩
      exact hr O1 φ1 H1 S1 v1 [] x [] w S' Q at1.sim w1 True.intro e fun v O' φ' H' n sm wo => h v O' φ' H' (n1.trans at_.ow n) sm wo
    · cases e
end
theorem WsOk.one {O : Ow} {φ : List Addr} {H : Hp} {vs : List V} {w : W} (h : WsOk C L O φ H vs [w]) : ∃ v, vs = [v] ∧ WOk C L O φ H v w := by
  match vs, h with
  | [v], h => exact ⟨v, rfl, h.1⟩
theorem WsOk.nil {O : Ow} {φ : List Addr} {H : Hp} {vs : List V} (h : WsOk C L O φ H vs []) : vs = [] := by
  match vs, h with
  | [], _ => rfl
theorem pd_eq {w : W} {x : D} (h : pd w = some x) : w = .d x := by
  cases w <;> simp [pd] at h
  rw [h]
theorem onRef_eq {x : W} {f : Nat → Option (W × Sto)} {z : W × Sto} (h : onRef x f = some z) : ∃ i, x = .ref i ∧ f i = some z := by
  cases x with
  | ref i => exact ⟨i, rfl, h⟩
  | _ => cases h
theorem me_append : MeR X C L .append rAppend := by
  intro O φ H S v vs x ws w S' Q sm wx wo e q
  unfold meW at e
  obtain ⟨i, rfl, e2⟩ := onRef_eq e
  clear e
  have e := e2
  clear e2
  unfold meAppend at e
  split at e <;> try cases e
  · rename_i w1
    split at e
    · rename_i xs y es ey
      split at e
      · rename_i hl
        cases e
        obtain ⟨a, ea, rfl⟩ := wx
        obtain ⟨v1, rfl, w1o⟩ := wo.one
        obtain rfl := pd_eq ey
        obtain ⟨ha, us, eh, t⟩ := sm.at_ i _ a es ea
        obtain ⟨nx, smk⟩ := sm.write (mo := .lst (xs ++ [y])) (o := .lst (us ++ [v1])) ea ha (fun _ z => nomatch z) fun _ z => nomatch z
        refine ⟨a, us, v1, rfl, rfl, eh, by rw [t.length]; exact lim_lt hl, q _ O φ _ nx (smk ⟨ha, _, upd_same, ?_⟩) .non⟩
        exact (t.append (.cons (wk_d w1o) .nil)).mono sm nx
      · cases e
    · cases e
theorem me_extend : MeR X C L .extend rExtend := by
  intro O φ H S v vs x ws w S' Q sm wx wo e q
  unfold meW at e
  obtain ⟨i, rfl, e2⟩ := onRef_eq e
  clear e
  have e := e2
  clear e2
  unfold meExtend at e
  split at e <;> try cases e
  · rename_i w1
    split at e
    · rename_i xs ys es ey
      split at e
      · rename_i hl
        cases e
        obtain ⟨a, ea, rfl⟩ := wx
        obtain ⟨v1, rfl, w1o⟩ := wo.one
        obtain rfl := pd_eq ey
        obtain ⟨ha, us, eh, t⟩ := sm.at_ i _ a es ea
        obtain ⟨b, zs, rfl, eb, tb⟩ := (Rb.d (wk_d w1o)).list
        obtain ⟨nx, smk⟩ := sm.write (mo := .lst (xs ++ ys)) (o := .lst (us ++ zs)) ea ha (fun _ z => nomatch z) fun _ z => nomatch z
        refine ⟨a, b, us, zs, rfl, rfl, eh, eb, by rw [t.length, tb.length]; exact lim_le hl, q _ O φ _ nx (smk ⟨ha, _, upd_same, ?_⟩) .non⟩
        exact (t.append tb).mono sm nx
      · cases e
    · cases e
theorem me_pop : MeR X C L .pop rPop := by
  intro O φ H S v vs x ws w S' Q sm wx wo e q
  unfold meW at e
  obtain ⟨i, rfl, e2⟩ := onRef_eq e
  clear e
  have e := e2
  clear e2
  unfold mePop at e
  split at e <;> try cases e
  · split at e
    · rename_i xs es
      split at e
      · rename_i y ey
        cases e
        obtain ⟨a, ea, rfl⟩ := wx
        have := wo.nil
        subst this
        obtain ⟨ha, us, eh, t⟩ := sm.at_ i _ a es ea
        obtain ⟨nx, smk⟩ := sm.write (mo := .lst xs.dropLast) (o := .lst us.dropLast) ea ha (fun _ z => nomatch z) fun _ z => nomatch z
        rw [List.getLast?_eq_getElem?] at ey
        obtain ⟨u, eu, du⟩ := t.get ey
        refine ⟨a, us, u, rfl, rfl, eh, by rw [t.length]; exact eu, q _ O φ _ nx (smk ⟨ha, _, upd_same, t.dropLast.mono sm nx⟩) (du.mono sm nx)⟩
      · cases e
    · cases e
theorem me_popAt : MeR X C L .pop1 rPopAt := by
  intro O φ H S v vs x ws w S' Q sm wx wo e q
  unfold meW at e
  obtain ⟨i, rfl, e2⟩ := onRef_eq e
  clear e
  have e := e2
  clear e2
  unfold mePop1 at e
  split at e <;> try cases e
  · rename_i j
    split at e
    · rename_i xs es
      split at e
      · rename_i hj
        have hj : 0 ≤ j ∧ j < LIM := of_decide_eq_true hj
        obtain ⟨y, ey, e⟩ := Option.map_eq_some_iff.mp e
        cases e
        obtain ⟨a, ea, rfl⟩ := wx
        obtain ⟨v1, rfl, w1o⟩ := wo.one
        have := wk_d w1o
        cases this
        obtain ⟨ha, us, eh, t⟩ := sm.at_ i _ a es ea
        obtain ⟨nx, smk⟩ := sm.write (mo := .lst (xs.eraseIdx j.toNat)) (o := .lst (us.eraseIdx j.toNat)) ea ha (fun _ z => nomatch z) fun _ z => nomatch z
        obtain ⟨u, eu, du⟩ := t.get ey
        have hlt : j.toNat < us.length := (List.getElem?_eq_some_iff.mp eu).1
        have hL : (LIM : Int) = 16000000 := rfl
        exact ⟨a, us, j, j.toNat, u, rfl, rfl, eh, by omega, by omega, seqIndex_of hj.1 (by omega), eu, q _ O φ _ nx (smk ⟨ha, _, upd_same, (t.eraseIdx _).mono sm nx⟩) (du.mono sm nx)⟩
      · cases e
    · cases e
theorem me_split : MeR X C L .split (fun x xs H Q => ∃ a b, x = .str a ∧ xs = [.str b] ∧ (b.length == 0) = false ∧ a.length + 2 ≤ sizeLine ∧ rNewStrs (Txt.split a b) H Q) := by
  intro O φ H S v vs x ws w S' Q sm wx wo e q
  have ow : ∀ a, O a → ∃ o, H a = some o := fun a h => let ⟨o, e, _⟩ := sm.ow a h; ⟨o, e⟩
  unfold meW at e
  simp only at e
  obtain ⟨dx, ex, e2⟩ := ob_eq e
  obtain ⟨xs, exs, e3⟩ := ob_eq e2
  obtain ⟨z, ez, e4⟩ := Option.map_eq_some_iff.mp e3
  clear e e2 e3
  cases e4
  have t := wo.pds exs
  have ez2 : meSplit dx xs = some z := ez
  clear ez
  have ez := ez2
  clear ez2
  unfold meSplit at ez
  split at ez
  · rename_i a b
    split at ez
    · rename_i hl
      cases ez
      rw [Bool.and_eq_true] at hl
      cases t with
      | cons h1 t1 =>
      cases t1
      cases h1
      have h0 : 0 < b.length := of_decide_eq_true hl.1
      refine ⟨a, b, (wx.rd sm ex).str, rfl, beq_eq_false_iff_ne.mpr (by omega), lim_le hl.2, fun p hp => ?_⟩
      refine q _ O φ _ (Gr.new hp).nxt (sm.gr (.new hp)) (Dn.newList hp ow ?_)
      have : ∀ l : List Str, DnA C O H (l.map V.str) (l.map .str) := fun l => by
        induction l with
        | nil => exact .nil
        | cons s l ih => exact .cons (.str s) ih
      exact this _
    · cases ez
  · cases ez
end RW
set_option Elab.async false
set_option linter.all false
set_option maxRecDepth 100000
set_option maxHeartbeats 2000000
namespace RW
open PySem PySem.W PyProof.Rows L2
variable {X : Cx} {C : DC} {L : Clo}
/-! ### calls -/
/-- a def's promise: what the interpreter makes of it -/
def spC (C : DC) (L : Clo) (m : List W → Sto → Option (W × Sto)) : Sp := fun vs H Q _ => ∃ O φ S ws w S', Sim C O φ H S ∧ WsOk C L O φ H vs ws ∧ m ws S = some (w, S') ∧ ∀ v O' φ' H', Nxt O φ H O' φ' H' → Sim C O' φ' H' S' → WOk C L O' φ' H' v w → Q v H'
def Ow.drop (O : Ow) (l : List Addr) : Ow := fun a => O a ∧ a ∉ l
/-- the youngest owned objects are owned no more -/
theorem Sim.drop {O : Ow} {φ : List Addr} {H : Hp} {S : Sto} (sm : Sim C O φ H S) (n : Nat) : Sim C (O.drop (φ.drop n)) (φ.take n) H (S.take n) := by
  refine ⟨by rw [List.length_take, List.length_take, sm.len], sm.nd.sublist (List.take_sublist n φ), fun i mo a e1 e2 => ?_, fun a h => sm.ow a h.1, fun a h => sm.tr a (List.mem_of_mem_take h), sm.tb⟩
  rw [List.getElem?_take] at e1 e2
  split at e1
  · rename_i hi
    rw [if_pos hi] at e2
    refine (sm.at_ i mo a e1 e2).step (fun u e => e) (fun vs xs h => h.less fun b h => h.1) fun h => ⟨h, fun z => ?_⟩
    obtain ⟨j, hj, ej⟩ := List.getElem_of_mem z
    rw [List.getElem_drop] at ej
    obtain ⟨h1, e1'⟩ := List.getElem?_eq_some_iff.mp e2
    rw [List.length_drop] at hj
    have := (List.getElem_inj sm.nd).mp (e1'.trans ej.symm)
    omega
  · cases e1
theorem Nxt.drop {O0 O : Ow} {φ0 φ : List Addr} {H0 H : Hp} {S0 S : Sto} (sm0 : Sim C O0 φ0 H0 S0) (sm : Sim C O φ H S) (n : Nxt O0 φ0 H0 O φ H) : Nxt O0 φ0 H0 (O.drop (φ.drop S0.length)) (φ.take S0.length) H := by
  obtain ⟨t, et⟩ := n.pre
  have e0 : φ.take S0.length = φ0 := by rw [← et, ← sm0.len]; simp
  refine ⟨n.keep, fun a h => n.own a h.1, fun a h hn => ⟨n.back a h hn, fun z => ?_⟩, n.gone, by rw [e0]; exact List.prefix_refl _, fun a h => by rw [e0] at h; exact .inl h, n.tbl⟩
  have hz : a ∈ φ := List.mem_of_mem_drop z
  rcases n.frs a hz with q | q
  · exact hn q
  · obtain ⟨o, e, _⟩ := sm0.ow a h
    rw [q] at e; cases e
theorem WOk.lessD {O O' : Ow} {φ φ' : List Addr} {H : Hp} {v : V} {x : D} (l : ∀ a, O' a → O a) (h : WOk C L O φ H v (.d x)) : WOk C L O' φ' H v (.d x) := Dn.less l h
/-- what was owned, handed back frozen -/
theorem Sim.hand {O : Ow} {φ : List Addr} {H : Hp} {S : Sto} (sm : Sim C O φ H S) {i n : Nat} {a : Addr} {x : D} (hi : n ≤ i) (ea : φ[i]? = some a) (e : (∃ xs, S[i]? = some (.lst xs) ∧ x = .list xs) ∨ ∃ t kvs, S[i]? = some (.dct t kvs) ∧ x = .dict kvs) : Dn C (O.drop (φ.drop n)) H (.ref a) x := by
  have no : ¬ (O.drop (φ.drop n)) a := fun z => z.2 (by
    obtain ⟨h1, e1⟩ := List.getElem?_eq_some_iff.mp ea
    have : (φ.drop n)[i - n]? = some a := by rw [List.getElem?_drop]; rw [show n + (i - n) = i by omega]; exact ea
    exact List.mem_of_getElem? this)
  rcases e with ⟨xs, es, rfl⟩ | ⟨t, kvs, es, rfl⟩
  · obtain ⟨_, vs, eh, t⟩ := sm.at_ i _ a es ea
    exact .list no eh (t.less fun b h => h.1)
  · cases t with
    | false =>
      obtain ⟨_, vs, eh, m, t⟩ := sm.at_ i _ a es ea
      exact .dicK no eh m (t.less fun b h => h.1)
    | true =>
      obtain ⟨_, vs, eh, m, t⟩ := sm.at_ i _ a es ea
      exact .dicT no eh m (t.less fun b h => h.1)
/-- no lambda -/
def noL : Clo := fun _ _ _ => False
theorem WsOk.noL {O : Ow} {φ : List Addr} {H : Hp} : ∀ {vs : List V} {ws : List W}, noClo ws = true → WsOk C L O φ H vs ws → WsOk C RW.noL O φ H vs ws
  | [], [], _, _ => True.intro
  | v :: vs, w :: ws, h, q => by
    cases w with
    | clo k cs => cases h
    | d x => exact ⟨q.1, WsOk.noL (ws := ws) h q.2⟩
    | ref i => exact ⟨q.1, WsOk.noL (ws := ws) h q.2⟩
    | refs l => exact ⟨q.1, WsOk.noL (ws := ws) h q.2⟩
    | scr l => exact ⟨q.1, WsOk.noL (ws := ws) h q.2⟩
    | drefs l => exact ⟨q.1, WsOk.noL (ws := ws) h q.2⟩
  | [], _ :: _, _, h => h.elim
  | _ :: _, [], _, h => h.elim
theorem WOk.ofNo {O : Ow} {φ : List Addr} {H : Hp} {v : V} {w : W} (h : WOk C RW.noL O φ H v w) : WOk C L O φ H v w := by
  cases w with
  | clo k cs => obtain ⟨_, _, q⟩ := h; exact q.elim
  | d x => exact h
  | ref i => exact h
  | refs l => exact h
  | scr l => exact h
  | drefs l => exact h
section
variable {m m1 m2 m3 : Env1 → Sto → Option (W × Sto)} {ms : Env1 → Sto → Option (List W × Sto)} {a b c o e0 : Expr} {es : List Expr} {pos apos cpos : Pos} {x : Str} {p : Pos} {f : Addr} {fd : FuncData} {ps : List Str} {k : Nat}
  {mf : List W → Sto → Option (W × Sto)}
theorem pe_callW (F : FnOk X.prog X.w X.K X.mg X.base C8.CX0 k f fd ps (spC C noL mf)) (hr : Room k X.A) (hg : Gl X x) (hm : X.mg x = some (.ref f)) (hk : PySem.W.keepIn X.K (.ref f) = true) (hb : Binds X.K fd ps [])
    (ha : PA X es (tA C L ms)) (hst : es.all notStar = true) (hdb : (x == ("__debug__" : Str)) = false) (hnil : es = [] → ∀ e S, ms e S = some ([], S)) : PE X (.Call (.Name x p) es [] pos) (tE C L fun e S => bd (ms e S) fun ws S => if noClo ws then mf ws S else none) := by
  cases es with
  | nil =>
    refine (pe_call0 (E := C8.E0) F hr hg hm hk hb .nil C8.pass0 hdb).imp fun σ H Q ⟨O, φ, S, env, w, S', at_, e, h⟩ => ?_
    have e' : bd (ms env S) (fun ws S => if noClo ws then mf ws S else none) = some (w, S') := e
    rw [hnil rfl] at e'
    exact ⟨O, φ, S, [], w, S', at_.sim, True.intro, e', fun v O' φ' H' n sm wo => h v O' φ' H' n sm wo.ofNo⟩
  | cons e0 es =>
    rw [List.all_cons, Bool.and_eq_true] at hst
    refine (pe_call (E := C8.E0) F hr hg hm hk hb .nil C8.pass0 ha hdb (star_of hst.1) (back_any hst.2)).imp fun σ H Q ⟨O, φ, S, env, w, S', at_, e, h⟩ => ?_
    refine tA.seq at_ e fun vs ws O1 φ1 H1 S1 n1 at1 w1 e => ?_
    rw [List.append_nil]
    split at e
    · rename_i hn
      exact ⟨O1, φ1, S1, ws, w, S', at1.sim, w1.noL hn, e, fun v O' φ' H' n sm wo => h v O' φ' H' (n1.trans at_.ow n) sm wo.ofNo⟩
    · cases e
/-! keywords alone, in the turned order -/
theorem PK.imp {kws : List Keyword} {t t' : TA} (h : PK X kws t) (i : ∀ σ H Q, t' σ H Q → t σ H Q) : PK X kws t' := ⟨fun pos pins s σ H Q I q => h.run pos pins s σ H Q I (i σ H Q q)⟩
theorem pk_nilW : PK X [] (tA C L fun _ S => some ([], S)) := PK.imp pk_nil fun σ H Q ⟨O, φ, S, env, ws, S', at_, e, h⟩ => by
  cases e
  exact h [] O φ H .refl at_.sim True.intro
theorem pk_consW {nm : Option Str} {kpos : Pos} {kws : List Keyword} (ha : PE X a (tE C L m)) (hr : PK X kws (tA C L ms)) :
    PK X (⟨nm, a, kpos⟩ :: kws) (tA C L fun e S => bd (m e S) fun x S => bd (ms e S) fun xs S => some (x :: xs, S)) :=
  PK.imp (pk_cons ha hr) fun σ H Q ⟨O, φ, S, env, ws, S', at_, e, h⟩ => by
    refine tE.seq at_ e fun v1 x O1 φ1 H1 S1 n1 at1 w1 e => ?_
    refine tA.seq at1 e fun vs xs O2 φ2 H2 S2 n2 at2 w2 e => ?_
    cases e
    exact h _ O2 φ2 H2 (n1.trans at_.ow n2) at2.sim ⟨w1.mono at1.sim n2, w2⟩
/-- every parameter by keyword, from the last one on -/
def KRev (fd : FuncData) (ps : List Str) : Prop := ∀ us : List Value, us.length = ps.length → bindArgs fd ⟨[], ps.reverse.zip us.reverse⟩ = pure (ps.zip us)
theorem WsOk.rev {O : Ow} {φ : List Addr} {H : Hp} : ∀ {vs : List V} {ws : List W}, WsOk C L O φ H vs ws → WsOk C L O φ H vs.reverse ws.reverse
  | [], [], _ => True.intro
  | v :: vs, w :: ws, h => by
    rw [List.reverse_cons, List.reverse_cons]
    exact (WsOk.rev h.2).app ⟨h.1, True.intro⟩
  | [], _ :: _, h => h.elim
  | _ :: _, [], h => h.elim
theorem Vals.rev {vs : List V} {us : List Value} (h : Vals vs us) : Vals vs.reverse us.reverse := by
  induction h with
  | nil => exact .nil
  | cons r t ih =>
    rw [List.reverse_cons, List.reverse_cons]
    exact ih.append (.cons r .nil)
theorem pe_callKW {kws : List Keyword} (F : FnOk X.prog X.w X.K X.mg X.base C8.CX0 k f fd ps (spC C noL mf)) (hr : Room k X.A) (hg : Gl X x) (hm : X.mg x = some (.ref f)) (hk : PySem.W.keepIn X.K (.ref f) = true) (hb : KRev fd ps)
    (hkw : PK X kws (tA C L ms)) (hall : (backToKw pos (keywordEach kws X.env)).all (·.1.isSome) = true) (hks : (backToKw pos (keywordEach kws X.env)).filterMap (·.1) = ps.reverse)
    (hno : (backToKw pos (keywordEach kws X.env)).any (·.1.isNone) = false) (hdb : (x == ("__debug__" : Str)) = false) : PE X (.Call (.Name x p) [] kws pos) (tE C L fun e S => bd (ms e S) fun ws S => if noClo ws then mf ws.reverse S else none) := by
  refine ⟨fun pins s σ H Q I ⟨O, φ, S, env, w, S', at_, e, h⟩ => ?_⟩
  refine wpAny_Call_Name_kw (ld_glob I hg hm ?_ hdb)
  refine PySem.W.callWith_KW0 (h₀ := X.base) I.ok.mod.kin hk hall ?_ (by rw [hno]; rfl)
  have q : tA C L ms σ H fun zs H2 => spC C noL mf zs.reverse H2 Q C8.E0 := by
    refine tA.seq at_ e fun vs ws O1 φ1 H1 S1 n1 at1 w1 e => ?_
    split at e
    · rename_i hn
      exact ⟨O1, φ1, S1, ws.reverse, w, S', at1.sim, (w1.noL hn).rev, e, fun v O' φ' H' n sm wo => h v O' φ' H' (n1.trans at_.ow n) sm wo.ofNo⟩
    · cases e
  refine thn (hkw.run pos pins s σ H _ I q) fun ws s2 ⟨zs, H2, I2, rz, q2⟩ => ⟨I2.kIn, ?_⟩
  rw [hks]
  have r2 : Vals zs.reverse ws.reverse := Vals.rev rz
  have hl : ws.reverse.length = ps.length := by rw [← r2.length]; exact F.len _ _ _ _ q2
  have hb' := hb ws.reverse hl
  rw [List.reverse_reverse] at hb'
  refine wpAny_call (codeAny_mono (F.run X.A X.stack s2 H2 ⟨[], ps.reverse.zip ws⟩ ws.reverse zs.reverse Q C8.E0 hr I2.env0 (.of_eq hb') r2 q2) fun r s' hq => ?_)
  cases r with
  | error e => exact C8.pass0 (X := X) (E := C8.E0) pins σ H2 s2 e s' I2 hq
  | ok fl =>
    cases fl with
    | ret u => exact I2.after hq
    | next => exact False.elim hq
    | brk => exact False.elim hq
    | cont => exact False.elim hq
/-! a new instance -/
def mkW (mf : List W → Sto → Option (W × Sto)) (c : Str) (ws : List W) (S : Sto) : Option (W × Sto) := bd (mf (.ref S.length :: ws) (S ++ [.ins c []])) fun r S' => match r, S'[S.length]? with
  | .d .none, some (.ins c [(f, x)]) => some (.d (instD c [(f, x)]), S'.take S.length)
  | _, _ => none
theorem mk_run {A : Addr} {c : Str} {O1 : Ow} {φ1 : List Addr} {H1 : Hp} {S1 : Sto} {vs : List V} {ws : List W} {w : W} {S' : Sto} {Q : VK} (sm1 : Sim C O1 φ1 H1 S1) (hA : C.cls c = some A) (w1 : WsOk C noL O1 φ1 H1 vs ws) (e : mkW mf c ws S1 = some (w, S'))
    (h : ∀ v O' φ' H', Nxt O1 φ1 H1 O' φ' H' → Sim C O' φ' H' S' → WOk C noL O' φ' H' v w → Q v H') (x dx : Addr) (hx : H1 x = none) (hdx : H1 dx = none) (ne : dx ≠ x) :
    spC C noL mf (.ref x :: vs) (upd (upd H1 dx (.own x)) x (.ins A dx [])) (fun v H2 => v = .non ∧ Q (.ref x) H2) C8.E0 := by
  obtain ⟨r, S2, e1, e2⟩ := bd_eq e
  have g1 : Gr H1 (upd H1 dx (.own x)) := .new hdx
  have hx1 : upd H1 dx (.own x) x = none := by rw [upd_ne (Ne.symm ne)]; exact hx
  have sm2 := sm1.gr g1
  obtain ⟨nx, smk, at2⟩ := sm2.fresh (mo := .ins c []) (o := .ins A dx []) hx1 (fun _ z => nomatch z) fun _ z => nomatch z
  have sm3 := smk ⟨.inr rfl, A, dx, [], hA, upd_same, rfl, .nil⟩
  have n13 : Nxt O1 φ1 H1 (O1.add x) (φ1 ++ [x]) (upd (upd H1 dx (.own x)) x (.ins A dx [])) := g1.nxt.trans (fun a h => let ⟨o, e, _⟩ := sm1.ow a h; ⟨o, e⟩) nx
  refine ⟨_, _, _, .ref S1.length :: ws, r, S2, sm3, ⟨⟨x, at2, rfl⟩, w1.mono sm1 n13⟩, e1, fun v O' φ' H' n sm wo => ?_⟩
  split at e2
  · rename_i c' f y es
    cases e2
    have hv := wk_d wo
    cases hv
    refine ⟨rfl, ?_⟩
    have n1 := n13.trans (fun a h => let ⟨o, e, _⟩ := sm1.ow a h; ⟨o, e⟩) n
    have ex : φ'[S1.length]? = some x := by
      obtain ⟨t, et⟩ := n.pre
      rw [← et, List.getElem?_append_left (List.getElem?_eq_some_iff.mp at2).1]
      exact at2
    obtain ⟨_, A', dx', fvs, hA', eh, ek, t⟩ := sm.at_ _ _ x es ex
    refine h _ _ _ _ (n1.drop sm1 sm) (sm.drop S1.length) ?_
    have no : ¬ (O'.drop (φ'.drop S1.length)) x := fun z => z.2 (by
      have : (φ'.drop S1.length)[0]? = some x := by rw [List.getElem?_drop, Nat.add_zero]; exact ex
      exact List.mem_of_getElem? this)
    match fvs, ek, t, eh with
    | [(f', u)], ek, t, eh =>
      cases t with
      | cons hu _ =>
        simp only [List.map_cons, List.map_nil, List.cons.injEq, and_true] at ek
        subst ek
        exact Dn.ins no hA' eh (hu.less fun b h => h.1)
    | [], ek, _, _ => cases ek
    | _ :: _ :: _, ek, _, _ => cases ek
  · cases e2
theorem pe_makeW {A : Addr} {c : Str} (M : Mk X.K A f) (F : FnOk X.prog X.w X.K X.mg X.base C8.CX0 k f fd ps (spC C noL mf)) (hr : Room (k + 1) X.A) (hA : C.cls c = some A) (hg : Gl X x) (hm : X.mg x = some (.ref A)) (hb : Binds X.K fd ps [])
    (ha : PA X (e0 :: es) (tA C L ms)) (hst : (e0 :: es).all notStar = true) (hdb : (x == ("__debug__" : Str)) = false) : PE X (.Call (.Name x p) (e0 :: es) [] pos) (tE C L fun e S => bd (ms e S) fun ws S => if noClo ws then mkW mf c ws S else none) := by
  rw [List.all_cons, Bool.and_eq_true] at hst
  refine (pe_make (E := C8.E0) M F hr hg hm hb .nil C8.pass0 ha hdb (star_of hst.1) (back_any hst.2)).imp fun σ H Q ⟨O, φ, S, env, w, S', at_, e, h⟩ => ?_
  refine tA.seq at_ e fun vs ws O1 φ1 H1 S1 n1 at1 w1 e => ?_
  rw [List.append_nil]
  split at e
  · rename_i hn
    exact mk_run at1.sim hA (w1.noL hn) e fun v O' φ' H' n sm wo => h v O' φ' H' (n1.trans at_.ow n) sm wo.ofNo
  · cases e
/-- every parameter but self by keyword, from the last one on -/
def KRev1 (fd : FuncData) (ps : List Str) : Prop := ∀ (s : Value) (us : List Value), us.length + 1 = ps.length → bindArgs fd ⟨[s], ps.tail.reverse.zip us.reverse⟩ = pure (ps.zip (s :: us))
theorem pe_makeKW {A : Addr} {c : Str} {kws : List Keyword} (M : Mk X.K A f) (F : FnOk X.prog X.w X.K X.mg X.base C8.CX0 k f fd ps (spC C noL mf)) (hr : Room (k + 1) X.A) (hA : C.cls c = some A) (hg : Gl X x) (hm : X.mg x = some (.ref A)) (hb : KRev1 fd ps)
    (hkw : PK X kws (tA C L ms)) (hall : (backToKw pos (keywordEach kws X.env)).all (·.1.isSome) = true) (hks : (backToKw pos (keywordEach kws X.env)).filterMap (·.1) = ps.tail.reverse)
    (hno : (backToKw pos (keywordEach kws X.env)).any (·.1.isNone) = false) (hdb : (x == ("__debug__" : Str)) = false) : PE X (.Call (.Name x p) [] kws pos) (tE C L fun e S => bd (ms e S) fun ws S => if noClo ws then mkW mf c ws.reverse S else none) := by
  refine ⟨fun pins s σ H Q I ⟨O, φ, S, env, w, S', at_, e, h⟩ => ?_⟩
  refine wpAny_Call_Name_kw (ld_glob I hg hm ?_ hdb)
  refine PySem.W.callWith_KW0 (h₀ := X.base) I.ok.mod.kin M.kp hall ?_ (by rw [hno]; rfl)
  have q : tA C L ms σ H fun zs H2 => ∀ x dx, H2 x = none → H2 dx = none → dx ≠ x → spC C noL mf (.ref x :: zs.reverse) (upd (upd H2 dx (.own x)) x (.ins A dx [])) (fun v H3 => v = .non ∧ Q (.ref x) H3) C8.E0 := by
    refine tA.seq at_ e fun vs ws O1 φ1 H1 S1 n1 at1 w1 e => ?_
    split at e
    · rename_i hn
      exact mk_run at1.sim hA (w1.noL hn).rev e fun v O' φ' H' n sm wo => h v O' φ' H' (n1.trans at_.ow n) sm wo.ofNo
    · cases e
  refine thn (hkw.run pos pins s σ H _ I q) fun ws s2 ⟨zs, H2, I2, rz, q2⟩ => ⟨I2.kIn, ?_⟩
  rw [hks]
  have r2 : Vals zs.reverse ws.reverse := Vals.rev rz
  have hq := q2 (s2.heap.objs.size + 1) s2.heap.objs.size (I2.hok.fresh (Nat.le_succ _)) (I2.hok.fresh (Nat.le_refl _)) (Nat.ne_of_lt (Nat.lt_succ_self _))
  have I3 := Inv.made (C := A) I2
  have r3 : Vals (V.ref (s2.heap.objs.size + 1) :: zs.reverse) (Value.ref (s2.heap.objs.size + 1) :: ws.reverse) := .cons rfl r2
  have hl : ws.reverse.length + 1 = ps.length := by
    have := F.len _ _ _ _ hq
    rw [r3.length] at this
    exact this
  have hb' := hb (Value.ref (s2.heap.objs.size + 1)) ws.reverse hl
  rw [List.reverse_reverse] at hb'
  refine wpAny_call (make_map (f := f) I2.kIn M.makes M.init (beq_iff_eq.mp M.fn) (codeAny_mono (F.run _ X.stack _ _ ⟨[Value.ref (s2.heap.objs.size + 1)], ps.tail.reverse.zip ws⟩ (Value.ref (s2.heap.objs.size + 1) :: ws.reverse) _ _ C8.E0 (hr.make A [] (ps.tail.reverse.zip ws))
    (I3.env0.make A [] (ps.tail.reverse.zip ws)) (.of_eq hb') r3 hq) fun r s' hq' => ?_))
  cases r with
  | error e => exact C8.pass0 (X := X) (E := C8.E0) pins _ _ _ e s' I3 hq'
  | ok fl =>
    cases fl with
    | ret u =>
      obtain ⟨v, H', I4, rv, ev, q3⟩ := I3.after hq'
      subst ev
      exact ⟨rv, ⟨V.ref (s2.heap.objs.size + 1), H', I4, rfl, q3⟩⟩
    | next => exact False.elim hq'
    | brk => exact False.elim hq'
    | cont => exact False.elim hq'
/-! list(..) of one's own; a name frozen -/
theorem pe_ownListW (hK : C.K = X.K) (hc : X.calm = true) (hg : Gl X "list") (hm : X.mg "list" = none) (ha : PE X a (tE C L m)) (hst : notStar a = true) : PE X (.Call (.Name "list" p) [a] [] pos) (tE C L fun e S => bd (m e S) fun x S => match x with
    | .d (.list xs) => freshI S (.lst xs)
    | .d (.tuple xs) => freshI S (.lst xs)
    | _ => none) :=
  (pe_callTy call_list_of hg hm PyProof.Rows.boot_list (pa_cons ha pa_nil (star_of hst)) (by decide) (by decide) (star_of hst) rfl).imp fun σ H Q ⟨O, φ, S, env, w, S', at_, e, h⟩ => by
    refine tE.seq at_ e fun v1 x O1 φ1 H1 S1 n1 at1 w1 e => ?_
    split at e
    · rename_i xs
      cases e
      obtain ⟨l, vs, rfl, hq, t⟩ := (Rb.d (wk_d w1)).list
      refine ⟨l, vs, rfl, .inl (SqL.of hq), fun p hp => ?_⟩
      obtain ⟨nx, sm, at2⟩ := at1.sim.fresh (mo := .lst xs) (o := .lst vs) hp (fun _ z => nomatch z) fun _ z => nomatch z
      exact h _ _ _ _ (n1.trans at_.ow nx) (sm ⟨.inr rfl, vs, upd_same, t.mono at1.sim nx⟩) ⟨p, at2, rfl⟩
    · rename_i xs
      cases e
      obtain ⟨l, vs, rfl, hq, t⟩ := (Rb.d (wk_d w1)).tuple hK
      refine ⟨l, vs, rfl, .inr hq, fun p hp => ?_⟩
      obtain ⟨nx, sm, at2⟩ := at1.sim.fresh (mo := .lst xs) (o := .lst vs) hp (fun _ z => nomatch z) fun _ z => nomatch z
      exact h _ _ _ _ (n1.trans at_.ow nx) (sm ⟨.inr rfl, vs, upd_same, t.mono at1.sim nx⟩) ⟨p, at2, rfl⟩
    · cases e
theorem pe_frzW {i : Nat} (ha : PE X a (tE C L fun e S => (slot e i).map fun w => (w, S))) : PE X a (tE C L fun e S => match slot e i with
    | some (.ref j) => match S[j]? with
      | some (.lst xs) => some (.d (.list xs), S.set j .dead)
      | _ => none
    | some (.d x) => some (.d x, S)
    | _ => none) :=
  ha.imp fun σ H Q ⟨O, φ, S, env, w, S', at_, e, h⟩ => by
    dsimp only at e
    split at e
    · rename_i j es
      split at e
      · rename_i xs ex
        cases e
        refine ⟨O, φ, S, env, .ref j, S, at_, by show (slot env i).map _ = _; rw [es]; rfl, fun v O' φ' H' n sm wo => ?_⟩
        obtain ⟨b, eb, rfl⟩ := wo
        obtain ⟨nx, sm2, d⟩ := sm.freeze eb ex
        exact h _ _ _ _ (n.trans at_.ow nx) sm2 d
      · cases e
    · rename_i x es
      cases e
      exact ⟨O, φ, S, env, .d x, S, at_, by show (slot env i).map _ = _; rw [es]; rfl, h⟩
    · cases e
end
end RW
set_option Elab.async false
set_option linter.all false
set_option maxRecDepth 100000
set_option maxHeartbeats 2000000
namespace RW
open PySem PySem.W PyProof.Rows L2
variable {X : Cx} {C : DC} {L : Clo}
/-! ### targets -/
def Tg.slots : Tg → List Nat
  | .nm i => [i]
  | .tp l => l
  | .tp1 i l => i :: l
def tG (C : DC) (L : Clo) (t : Tg) : TG := fun v σ H Q => ∃ O φ S env w env', At C L O φ H σ env S ∧ WOk C L O φ H v w ∧ asgT env t w = some env' ∧ ∀ σ' : L2.St, σ'.length = σ.length → EnvOk C L O φ H σ' env' → (∀ j, j ∉ t.slots → σ'[j]? = σ[j]?) → Q σ' H
theorem EnvOk.set {O : Ow} {φ : List Addr} {H : Hp} {σ : L2.St} {env : Env1} {i : Nat} {v : V} {w : W} (h : EnvOk C L O φ H σ env) (hi : i < env.length) (hw : WOk C L O φ H v w) : EnvOk C L O φ H (σ.set i (some v)) (env.set i (some w)) := by
  refine ⟨by rw [List.length_set, List.length_set]; exact h.len, fun j u e => ?_⟩
  unfold slot at e
  by_cases hj : j = i
  · subst hj
    rw [List.getElem?_set_self hi] at e
    simp only at e
    cases e
    exact ⟨v, List.getElem?_set_self (by rw [← h.len]; exact hi), hw⟩
  · rw [List.getElem?_set_ne (Ne.symm hj)] at e
    obtain ⟨v', e1, e2⟩ := h.at_ j u e
    exact ⟨v', by rw [List.getElem?_set_ne (Ne.symm hj)]; exact e1, e2⟩
theorem asg1_eq {e e' : Env1} {i : Nat} {w : W} (h : asg1 e i w = some e') : i < e.length ∧ e' = e.set i (some w) := by
  unfold asg1 at h
  split at h
  · rename_i hi
    cases h
    exact ⟨hi, rfl⟩
  · cases h
theorem _root_.L2.PG.imp {e : Expr} {t t' : TG} (h : PG X e t) (i : ∀ v σ H Q, t' v σ H Q → t v σ H Q) : PG X e t' := ⟨fun pins s σ H v u Q I r q => h.run pins s σ H v u Q I r (i v σ H Q q)⟩
theorem pg_nameW {x : Str} {p : Pos} {i : Nat} (hN : X.N.Nodup) (hi : X.N[i]? = some x) (hx : Loc X.env.scope x) (hf : X.fn x = true ∨ X.env.scope.names.lookup x = some .local) : PG X (.Name x p) (tG C L (.nm i)) :=
  (pg_name hN hi hx hf).imp fun v σ H Q ⟨O, φ, S, env, w, env', at_, wo, e, h⟩ => by
    obtain ⟨h1, rfl⟩ := asg1_eq e
    refine h _ (by rw [List.length_set]) (at_.env.set h1 wo) fun j hj => ?_
    rw [List.getElem?_set_ne]
    intro z
    exact hj (by simp [Tg.slots, z])
/-- names in a row -/
def setAll (σ : L2.St) : List Nat → List V → L2.St
  | i :: l, v :: vs => setAll (σ.set i (some v)) l vs
  | _, _ => σ
def gNames : List Nat → TGs
  | [] => gNil
  | i :: l => gCons (gName i) (gNames l)
theorem gNames_of {l : List Nat} : ∀ {vs : List V} {σ : L2.St} {H : Hp} {Q : L2.St → Hp → Prop}, vs.length = l.length → Q (setAll σ l vs) H → gNames l vs σ H Q := by
  induction l with
  | nil =>
    intro vs σ H Q hl h
    have : vs = [] := List.eq_nil_of_length_eq_zero hl
    subst this
    exact ⟨rfl, h⟩
  | cons i l ih =>
    intro vs σ H Q hl h
    match vs, hl with
    | v :: vs, hl => exact ⟨v, vs, rfl, ih (by simpa using hl) h⟩
theorem setAll_length : ∀ {l : List Nat} {vs : List V} {σ : L2.St}, (setAll σ l vs).length = σ.length
  | [], _, _ => rfl
  | _ :: _, [], _ => rfl
  | i :: l, v :: vs, σ => by
    unfold setAll
    rw [setAll_length, List.length_set]
theorem setAll_out : ∀ {l : List Nat} {vs : List V} {σ : L2.St} {j : Nat}, j ∉ l → (setAll σ l vs)[j]? = σ[j]?
  | [], _, _, _, _ => rfl
  | _ :: _, [], _, _, _ => rfl
  | i :: l, v :: vs, σ, j, h => by
    unfold setAll
    rw [setAll_out fun z => h (List.mem_cons_of_mem _ z), List.getElem?_set_ne fun z => h (by rw [← z]; exact List.mem_cons_self)]
theorem asgL_ok {O : Ow} {φ : List Addr} {H : Hp} : ∀ {l : List Nat} {vs : List V} {xs : List D} {σ : L2.St} {env env' : Env1}, EnvOk C L O φ H σ env → DnA C O H vs xs → asgL env l xs = some env' → EnvOk C L O φ H (setAll σ l vs) env' ∧ vs.length = l.length
  | [], _, [], σ, env, env', h, .nil, e => by cases e; exact ⟨h, rfl⟩
  | i :: l, _, x :: xs, σ, env, env', h, .cons hx t, e => by
    unfold asgL at e
    obtain ⟨e1, h1, h2⟩ := ob_eq e
    obtain ⟨h3, rfl⟩ := asg1_eq h1
    obtain ⟨h4, h5⟩ := asgL_ok (h.set (w := .d x) h3 hx) t h2
    exact ⟨h4, by simp [h5]⟩
  | [], _, _ :: _, _, _, _, _, _, e => by cases e
  | _ :: _, _, [], _, _, _, _, _, e => by cases e
theorem tup_len {P : Program} (hK : C.K = X.K) {O : Ow} {H : Hp} {v : V} {xs : List D} (h : Dn C O H v (.tuple xs)) : ∃ a vs, v = .ref a ∧ SqT X.K H a vs ∧ DnA C O H vs xs := (Rb.d h).tuple hK
theorem pg_tupW {es : List Expr} {k : Nat} {p : Pos} {l : List Nat} (hK : C.K = X.K) (hc : X.calm = true) (h : PGs X es (gNames l)) (hn : (assignEach es X.env).length = l.length) (hst : (assignEach es X.env).findIdx? (·.1) = none) : PG X (.Tuple es k p) (tG C L (.tp l)) :=
  (pg_tup hc h hn hst).imp fun v σ H Q ⟨O, φ, S, env, w, env', at_, wo, e, h⟩ => by
    unfold asgT at e
    simp only at e
    split at e
    · rename_i xs
      obtain ⟨a, vs, rfl, hq, t⟩ := (Rb.d (wk_d wo)).tuple hK
      obtain ⟨h1, h2⟩ := asgL_ok at_.env t e
      exact ⟨a, vs, rfl, hq, h2, gNames_of h2 (h _ setAll_length h1 fun j hj => setAll_out hj)⟩
    · cases e
/-- names of a scope, stored in a row -/
theorem pgs_names (hN : X.N.Nodup) : ∀ {es : List Expr} {l : List Nat}, (∀ (j : Nat) (e : Expr) (i : Nat), es[j]? = some e → l[j]? = some i → ∃ x p, e = .Name x p ∧ X.N[i]? = some x ∧ Loc X.env.scope x ∧ (X.fn x = true ∨ X.env.scope.names.lookup x = some .local)) → es.length = l.length →
    PGs X es (gNames l) ∧ (assignEach es X.env).length = l.length ∧ (assignEach es X.env).findIdx? (·.1) = none
  | [], [], _, _ => ⟨pgs_nil, rfl, rfl⟩
  | e :: es, i :: l, h, hl => by
    obtain ⟨x, p, rfl, h1, h2, h3⟩ := h 0 e i rfl rfl
    obtain ⟨g, g2, g3⟩ := pgs_names hN (es := es) (l := l) (fun j e i a b => h (j + 1) e i a b) (by simpa using hl)
    have ea : assignEach (.Name x p :: es) X.env = (false, assign (.Name x p) X.env) :: assignEach es X.env := rfl
    refine ⟨pgs_cons (pg_name hN h1 h2 h3) g rfl, by rw [ea]; simp [g2], ?_⟩
    rw [ea, List.findIdx?_cons]
    simp [g3]
  | [], _ :: _, _, hl => nomatch hl
  | _ :: _, [], _, hl => nomatch hl
/-- (a, (b, c, ..)) -/
theorem pg_tup1W {x : Str} {p0 p1 p2 : Pos} {i k k2 : Nat} {es : List Expr} {l : List Nat} (hK : C.K = X.K) (hc : X.calm = true) (hN : X.N.Nodup) (hi : X.N[i]? = some x) (hx : Loc X.env.scope x) (hf : X.fn x = true ∨ X.env.scope.names.lookup x = some .local)
    (h : PGs X es (gNames l)) (hn : (assignEach es X.env).length = l.length) (hst : (assignEach es X.env).findIdx? (·.1) = none) : PG X (.Tuple [.Name x p0, .Tuple es k2 p2] k p1) (tG C L (.tp1 i l)) :=
  (pg_tup hc (pgs_cons (pg_name hN hi hx hf) (pgs_cons (pg_tup hc h hn hst) pgs_nil rfl) rfl) rfl rfl).imp fun v σ H Q ⟨O, φ, S, env, w, env', at_, wo, e, h⟩ => by
    unfold asgT at e
    simp only at e
    split at e
    · rename_i y xs
      obtain ⟨env1, e1, e2⟩ := ob_eq e
      obtain ⟨h3, rfl⟩ := asg1_eq e1
      obtain ⟨a, vs, rfl, hq, t⟩ := (Rb.d (wk_d wo)).tuple hK
      cases t with
      | cons hy t =>
      cases t with
      | cons hz t =>
      cases t
      obtain ⟨b, us, rfl, hq2, t2⟩ := (Rb.d hz).tuple hK
      obtain ⟨h1, h2⟩ := asgL_ok (at_.env.set (w := .d y) h3 hy) t2 e2
      refine ⟨a, _, rfl, hq, rfl, _, _, rfl, ?_⟩
      refine ⟨_, _, rfl, ?_⟩
      refine ⟨b, us, rfl, hq2, h2, gNames_of h2 ?_⟩
      refine ⟨rfl, h _ (by rw [setAll_length, List.length_set]) h1 fun j hj => ?_⟩
      rw [setAll_out fun z => hj (List.mem_cons_of_mem _ z), List.getElem?_set_ne]
      intro z
      exact hj (by rw [← z]; exact List.mem_cons_self)
    · cases e
/-! ### what is walked -/
theorem Dn.tupleK {O : Ow} {H : Hp} {v : V} {xs : List D} (h : Dn C O H v (.tuple xs)) : ∃ a vs, v = .ref a ∧ SqT C.K H a vs ∧ DnA C O H vs xs := by
  cases h with
  | tupH q t => exact ⟨_, _, rfl, .inl (.inl q), t⟩
  | tupK q l t =>
    rcases q with (z | ⟨_, z⟩) | z
    · cases z
    · cases z
    · exact ⟨_, _, rfl, .inr z, t⟩
/-- enumerate(a tuple) -/
def IteT (K : PySem.W.Frag) (a : Addr) : L2.It :=
  ⟨fun i H => ∃ (xs : List V) (x : V), SqT K H a xs ∧ xs[i]? = some x, fun i H v H' => ∃ T x, v = .ref T ∧ H T = none ∧ H' = upd H T (.tup [.int (i : Nat), x]) ∧ ∀ xs, SqT K H a xs → xs[i]? = some x, fun i H => ∃ xs : List V, SqT K H a xs ∧ xs.length ≤ i⟩
/-- its items, as data -/
inductive Src (C : DC) (O : Ow) (H : Hp) : L2.It → List D → Prop
  | list {a xs} : Dn C O H (.ref a) (.list xs) → Src C O H (Itl C.K a) xs
  | tup {a xs} : Dn C O H (.ref a) (.tuple xs) → Src C O H (Itt C.K a) xs
  | rng (lo : Int) (n : Nat) : Src C O H (Itr lo n) ((List.range n).map fun (k : Nat) => .int (lo + k))
  | str (z : Str) : Src C O H (Its z) (z.cps.toList.map fun c => .str ⟨#[c]⟩)
  | enum {a xs} : Dn C O H (.ref a) (.tuple xs) → Src C O H (IteT C.K a) ((xs.zipIdx).map fun p => .tuple [.int p.2, p.1])
  | zip {a b xs ys} : Dn C O H (.ref a) (.tuple xs) → Dn C O H (.ref b) (.tuple ys) → Src C O H (RZ.ItzT C.K a b) ((xs.zip ys).map fun p => .tuple [p.1, p.2])
  | zipL {a b xs ys} : Dn C O H (.ref a) (.list xs) → Dn C O H (.ref b) (.list ys) → Src C O H (Itz C.K a b) ((xs.zip ys).map fun p => .tuple [p.1, p.2])
section
variable {O O' : Ow} {φ φ' : List Addr} {H H' : Hp} {S : Sto} {J : L2.It} {xs : List D}
theorem Src.mono (sm : Sim C O φ H S) (n : Nxt O φ H O' φ' H') (s : Src C O H J xs) : Src C O' H' J xs := by
  cases s with
  | list d => exact .list (d.mono sm n)
  | tup d => exact .tup (d.mono sm n)
  | rng lo n => exact .rng lo n
  | str z => exact .str z
  | enum d => exact .enum (d.mono sm n)
  | zip d d' => exact .zip (d.mono sm n) (d'.mono sm n)
  | zipL d d' => exact .zipL (d.mono sm n) (d'.mono sm n)
/-- where it goes on, it gives the next item -/
theorem Src.go (s : Src C O H J xs) {i : Nat} (hi : i < xs.length) : J.go i H := by
  cases s with
  | list d =>
    obtain ⟨a, vs, e, ha, t⟩ := (Rb.d d).list
    cases e
    exact ⟨vs, vs[i]'(by rw [t.length]; exact hi), SqL.of ha, List.getElem?_eq_getElem _⟩
  | tup d =>
    obtain ⟨_, vs, e, ha, t⟩ := d.tupleK
    cases e
    exact ⟨vs, _, ha, List.getElem?_eq_getElem (by rw [t.length]; exact hi)⟩
  | rng lo n => exact (show i < n by simpa using hi)
  | str z => exact (show i < z.cps.size by simpa using hi)
  | enum d =>
    have hi' : i < _ := (by simpa using hi : i < List.length _)
    obtain ⟨_, vs, e, ha, t⟩ := d.tupleK
    cases e
    exact ⟨vs, _, ha, List.getElem?_eq_getElem (by rw [t.length]; exact hi')⟩
  | @zip a b xs ys d d' =>
    have hi' : i < xs.length ∧ i < ys.length := by
      simp only [List.length_map, List.length_zip] at hi
      omega
    obtain ⟨_, vs, e, ha, t⟩ := d.tupleK
    obtain ⟨_, us, e', ha', t'⟩ := d'.tupleK
    cases e; cases e'
    exact ⟨vs, us, _, _, ha, ha', List.getElem?_eq_getElem (by rw [t.length]; exact hi'.1), List.getElem?_eq_getElem (by rw [t'.length]; exact hi'.2)⟩
  | @zipL a b xs ys d d' =>
    have hi' : i < xs.length ∧ i < ys.length := by
      simp only [List.length_map, List.length_zip] at hi
      omega
    obtain ⟨_, vs, e, ha, t⟩ := (Rb.d d).list
    obtain ⟨_, us, e', ha', t'⟩ := (Rb.d d').list
    cases e; cases e'
    exact ⟨vs, us, _, _, SqL.of ha, SqL.of ha', List.getElem?_eq_getElem (by rw [t.length]; exact hi'.1), List.getElem?_eq_getElem (by rw [t'.length]; exact hi'.2)⟩
theorem Src.stop (s : Src C O H J xs) : J.stop xs.length H := by
  cases s with
  | list d =>
    obtain ⟨a, vs, e, ha, t⟩ := (Rb.d d).list
    cases e
    exact ⟨vs, SqL.of ha, by rw [t.length]; exact Nat.le_refl _⟩
  | tup d =>
    obtain ⟨_, vs, e, ha, t⟩ := d.tupleK
    cases e
    exact ⟨vs, ha, by rw [t.length]; exact Nat.le_refl _⟩
  | rng lo n => exact (show n ≤ _ by simp)
  | str z => exact (show z.cps.size ≤ _ by simp)
  | enum d =>
    obtain ⟨_, vs, e, ha, t⟩ := d.tupleK
    cases e
    exact ⟨vs, ha, by rw [t.length]; simp⟩
  | zip d d' =>
    obtain ⟨_, vs, e, ha, t⟩ := d.tupleK
    obtain ⟨_, us, e', ha', t'⟩ := d'.tupleK
    cases e; cases e'
    refine ⟨vs, us, ha, ha', ?_⟩
    rw [t.length, t'.length, List.length_map, List.length_zip]
    omega
  | zipL d d' =>
    obtain ⟨_, vs, e, ha, t⟩ := (Rb.d d).list
    obtain ⟨_, us, e', ha', t'⟩ := (Rb.d d').list
    cases e; cases e'
    refine ⟨vs, us, SqL.of ha, SqL.of ha', ?_⟩
    rw [t.length, t'.length, List.length_map, List.length_zip]
    omega
theorem Src.yld (s : Src C O H J xs) {i : Nat} {v : V} {H' : Hp} (hi : i < xs.length) (y : J.yld i H v H') : Gr H H' ∧ ∃ x, xs[i]? = some x ∧ Dn C O H' v x := by
  cases s with
  | list d =>
    obtain ⟨_, vs, e, ha, t⟩ := (Rb.d d).list
    cases e
    obtain ⟨rfl, y⟩ := y
    obtain ⟨x, ex, dx⟩ := t.get' (y vs (SqL.of ha))
    exact ⟨.refl, x, ex, dx⟩
  | tup d =>
    obtain ⟨_, vs, e, ha, t⟩ := d.tupleK
    cases e
    obtain ⟨rfl, y⟩ := y
    obtain ⟨x, ex, dx⟩ := t.get' (y vs ha)
    exact ⟨.refl, x, ex, dx⟩
  | rng lo n =>
    obtain ⟨rfl, rfl⟩ := y
    have hi' : i < n := by simpa using hi
    exact ⟨.refl, .int (lo + i), by rw [List.getElem?_map, List.getElem?_range hi']; rfl, .int _⟩
  | str z =>
    obtain ⟨rfl, c, ec, rfl⟩ := y
    exact ⟨.refl, .str ⟨#[c]⟩, by rw [List.getElem?_map, Array.getElem?_toList, ec]; rfl, .str _⟩
  | enum d =>
    obtain ⟨_, vs, e, ha, t⟩ := d.tupleK
    cases e
    obtain ⟨T, u, rfl, hT, rfl, y⟩ := y
    obtain ⟨x, ex, dx⟩ := t.get' (y vs ha)
    refine ⟨.new hT, .tuple [.int i, x], ?_, Dn.newTup hT (.cons (.int _) (.cons dx .nil))⟩
    rw [List.getElem?_map, List.getElem?_zipIdx, ex]
    simp
  | zip d d' =>
    obtain ⟨_, vs, e, ha, t⟩ := d.tupleK
    obtain ⟨_, us, e', ha', t'⟩ := d'.tupleK
    cases e; cases e'
    obtain ⟨T, u, w, rfl, hT, rfl, y, y'⟩ := y
    obtain ⟨x, ex, dx⟩ := t.get' (y vs ha)
    obtain ⟨x', ex', dx'⟩ := t'.get' (y' us ha')
    refine ⟨.new hT, .tuple [x, x'], ?_, Dn.newTup hT (.cons dx (.cons dx' .nil))⟩
    rw [List.getElem?_map, List.getElem?_zip_eq_some (z := (x, x')) |>.mpr ⟨ex, ex'⟩]
    rfl
  | zipL d d' =>
    obtain ⟨_, vs, e, ha, t⟩ := (Rb.d d).list
    obtain ⟨_, us, e', ha', t'⟩ := (Rb.d d').list
    cases e; cases e'
    obtain ⟨T, u, w, rfl, hT, rfl, y, y'⟩ := y
    obtain ⟨x, ex, dx⟩ := t.get' (y vs (SqL.of ha))
    obtain ⟨x', ex', dx'⟩ := t'.get' (y' us (SqL.of ha'))
    refine ⟨.new hT, .tuple [x, x'], ?_, Dn.newTup hT (.cons dx (.cons dx' .nil))⟩
    rw [List.getElem?_map, List.getElem?_zip_eq_some (z := (x, x')) |>.mpr ⟨ex, ex'⟩]
    rfl
end
/-! reading -/
def tI (C : DC) (L : Clo) (m : Env1 → Sto → Option (List D × Sto)) : TI := fun σ H R => ∃ O φ S env xs S', At C L O φ H σ env S ∧ m env S = some (xs, S') ∧ ∀ J O' φ' H', Nxt O φ H O' φ' H' → Sim C O' φ' H' S' → Src C O' H' J xs → R J H'
theorem _root_.L2.PI.imp {tg e : Expr} {t t' : TI} (h : PI X tg e t) (i : ∀ σ H Q, t' σ H Q → t σ H Q) : PI X tg e t' := ⟨fun pins s σ H Q I q => h.run pins s σ H Q I (i σ H Q q)⟩
theorem _root_.L2.PI.or {tg e : Expr} {t t' : TI} (h : PI X tg e t) (h' : PI X tg e t') : PI X tg e (fun σ H R => t σ H R ∨ t' σ H R) := ⟨fun pins s σ H Q I q => q.elim (h.run pins s σ H Q I) (h'.run pins s σ H Q I)⟩
section
variable {m m1 m2 : Env1 → Sto → Option (W × Sto)} {tg a b : Expr} {pos p : Pos}
def itW (m : Env1 → Sto → Option (W × Sto)) : Env1 → Sto → Option (List D × Sto) := fun e S => bd (m e S) fun x S => match x with
    | .d (.list xs) => some (xs, S)
    | .d (.tuple xs) => some (xs, S)
    | .d (.str z) => some (z.cps.toList.map fun c => .str ⟨#[c]⟩, S)
    | _ => none
theorem pi_eW (hK : C.K = X.K) (ha : PE X a (tE C L m)) : PI X tg a (tI C L (itW m)) :=
  ((pi_list ha).or ((pi_tup ha).or (pi_str ha))).imp fun σ H R ⟨O, φ, S, env, xs, S', at_, e, h⟩ => by
    obtain ⟨x, S1, e1, e2⟩ := bd_eq e
    split at e2
    · cases e2
      refine .inl ⟨O, φ, S, env, _, _, at_, e1, fun v O' φ' H' n sm wo => ?_⟩
      obtain ⟨a, vs, rfl, ha, t⟩ := (Rb.d (wk_d wo)).list
      exact ⟨a, rfl, ⟨vs, SqL.of ha⟩, hK ▸ h _ O' φ' H' n sm (.list (wk_d wo))⟩
    · cases e2
      refine .inr (.inl ⟨O, φ, S, env, _, _, at_, e1, fun v O' φ' H' n sm wo => ?_⟩)
      obtain ⟨a, vs, rfl, ha, t⟩ := (wk_d wo).tupleK
      exact ⟨a, rfl, ⟨vs, hK ▸ ha⟩, hK ▸ h _ O' φ' H' n sm (.tup (wk_d wo))⟩
    · cases e2
      refine .inr (.inr ⟨O, φ, S, env, _, _, at_, e1, fun v O' φ' H' n sm wo => ?_⟩)
      have := wk_d wo
      cases this
      exact ⟨_, rfl, h _ O' φ' H' n sm (.str _)⟩
    · cases e2
theorem small62_of {i : Int} (h : small62 i = true) : -(2 ^ 62) ≤ i ∧ i < 2 ^ 62 := of_decide_eq_true h
theorem pi_r1W (hg : Gl X "range") (hm : X.mg "range" = none) (ha : PE X a (tE C L m)) (hst : notStar a = true) : PI X tg (.Call (.Name "range" p) [a] [] pos) (tI C L fun e S => bd (m e S) fun x S => match x with
    | .d (.int j) => if small62 j then some (rangeL 0 j, S) else none
    | _ => none) :=
  (pi_range1 hg hm (pa_cons ha pa_nil (star_of hst)) (star_of hst)).imp fun σ H R ⟨O, φ, S, env, xs, S', at_, e, h⟩ => by
    refine tE.seq at_ e fun v1 x O1 φ1 H1 S1 n1 at1 w1 e => ?_
    split at e
    · rename_i j
      split at e
      · rename_i hj
        cases e
        have := wk_d w1
        cases this
        refine ⟨j, rfl, (small62_of hj).1, (small62_of hj).2, h _ O1 φ1 H1 n1 at1.sim ?_⟩
        have := Src.rng (C := C) (O := O1) (H := H1) 0 j.toNat
        unfold rangeL
        rw [Int.sub_zero]
        exact this
      · cases e
    · cases e
theorem pi_r2W (hg : Gl X "range") (hm : X.mg "range" = none) (ha : PE X a (tE C L m1)) (hb : PE X b (tE C L m2)) (hst : notStar a = true) (hst2 : notStar b = true) : PI X tg (.Call (.Name "range" p) [a, b] [] pos) (tI C L fun e S => bd (m1 e S) fun x S => bd (m2 e S) fun y S => match x, y with
    | .d (.int i), .d (.int j) => if small62 i && small62 j then some (rangeL i j, S) else none
    | _, _ => none) :=
  (pi_range2 hg hm (pa_cons ha (pa_cons hb pa_nil (star_of hst2)) (star_of hst)) (by rw [star_of hst, star_of hst2]; rfl) (star_of hst2)).imp fun σ H R ⟨O, φ, S, env, xs, S', at_, e, h⟩ => by
    refine tE.seq at_ e fun v1 x O1 φ1 H1 S1 n1 at1 w1 e => ?_
    refine tE.seq at1 e fun v2 y O2 φ2 H2 S2 n2 at2 w2 e => ?_
    split at e
    · rename_i i j
      split at e
      · rename_i hj
        cases e
        rw [Bool.and_eq_true] at hj
        have := wk_d w1
        cases this
        have := wk_d w2
        cases this
        exact ⟨_, _, rfl, ⟨(small62_of hj.1).1, (small62_of hj.1).2, (small62_of hj.2).1, (small62_of hj.2).2⟩, h _ O2 φ2 H2 (n1.trans at_.ow n2) at2.sim (.rng _ _)⟩
      · cases e
    · cases e
theorem pi_zipW (hK : C.K = X.K) {elts : List Expr} {kk : Nat} {tpos : Pos} (hg : Gl X "zip") (hm : X.mg "zip" = none) (ha : PE X a (tE C L m1)) (hb : PE X b (tE C L m2)) (hst : notStar a = true) (hst2 : notStar b = true) :
    PI X (.Tuple elts kk tpos) (.Call (.Name "zip" p) [a, b] [] pos) (tI C L fun e S => bd (m1 e S) fun x S => bd (m2 e S) fun y S => match x, y with
    | .d (.tuple xs), .d (.tuple ys) => some ((xs.zip ys).map fun p => .tuple [p.1, p.2], S)
    | .d (.list xs), .d (.list ys) => some ((xs.zip ys).map fun p => .tuple [p.1, p.2], S)
    | _, _ => none) :=
  (RZ.pi_zipA hg hm (pa_cons ha (pa_cons hb pa_nil (star_of hst2)) (star_of hst)) (star_of hst) (back_any (by simp [hst2]))).imp fun σ H R ⟨O, φ, S, env, xs, S', at_, e, h⟩ => by
    refine tE.seq at_ e fun v1 x O1 φ1 H1 S1 n1 at1 w1 e => ?_
    refine tE.seq at1 e fun v2 y O2 φ2 H2 S2 n2 at2 w2 e => ?_
    split at e
    · cases e
      have w1' := w1.mono at1.sim n2
      obtain ⟨a, vs, rfl, ha, t⟩ := (wk_d w1').tupleK
      obtain ⟨b, us, rfl, hb, t'⟩ := (wk_d w2).tupleK
      exact ⟨a, b, vs, us, rfl, .inr ⟨hK ▸ ha, hK ▸ hb, hK ▸ h _ O2 φ2 H2 (n1.trans at_.ow n2) at2.sim (.zip (wk_d w1') (wk_d w2))⟩⟩
    · cases e
      have w1' := w1.mono at1.sim n2
      obtain ⟨a, vs, rfl, ha, t⟩ := (Rb.d (wk_d w1')).list
      obtain ⟨b, us, rfl, hb, t'⟩ := (Rb.d (wk_d w2)).list
      exact ⟨a, b, vs, us, rfl, .inl ⟨SqL.of ha, SqL.of hb, hK ▸ h _ O2 φ2 H2 (n1.trans at_.ow n2) at2.sim (.zipL (wk_d w1') (wk_d w2))⟩⟩
    · cases e
end
end RW
set_option Elab.async false
set_option linter.all false
set_option maxRecDepth 100000
set_option maxHeartbeats 2000000
namespace RW
open PySem PySem.W PyProof.Rows L2
variable {X : Cx} {C : DC} {L : Clo}
/-! ### comprehensions -/
theorem wipe_in {σ : L2.St} {i : Nat} : ∀ {vs : List Nat}, i ∈ vs → i < σ.length → (wipe σ vs)[i]? = some none
  | v :: vs, h, hl => by
    unfold wipe
    by_cases hv : v = i
    · subst hv
      exact List.getElem?_set_self (by rw [wipe_length]; exact hl)
    · rw [List.getElem?_set_ne hv]
      exact wipe_in ((List.mem_cons.mp h).resolve_left fun z => hv z.symm) hl
theorem wipe_eq {σ σ' : L2.St} {vs : List Nat} (hl : σ'.length = σ.length) (h : ∀ j, j ∉ vs → σ'[j]? = σ[j]?) : wipe σ' vs = wipe σ vs := by
  apply List.ext_getElem?
  intro j
  by_cases hj : j ∈ vs
  · by_cases hlt : j < σ.length
    · rw [wipe_in hj hlt, wipe_in hj (by rw [hl]; exact hlt)]
    · rw [List.getElem?_eq_none (by rw [wipe_length, hl]; omega), List.getElem?_eq_none (by rw [wipe_length]; omega)]
  · rw [wipe_out hj, wipe_out hj]
    exact h j hj
theorem wipe1_length (e : Env1) : ∀ vs : List Nat, (wipe1 e vs).length = e.length
  | [] => rfl
  | v :: vs => by unfold wipe1; rw [List.length_set, wipe1_length e vs]
theorem wipe1_slot {e : Env1} {i : Nat} {w : W} : ∀ {vs : List Nat}, slot (wipe1 e vs) i = some w → slot e i = some w ∧ i ∉ vs
  | [], h => ⟨h, by simp⟩
  | v :: vs, h => by
    unfold wipe1 slot at h
    by_cases hi : v = i
    · subst hi
      by_cases hv : v < (wipe1 e vs).length
      · rw [List.getElem?_set_self hv] at h; cases h
      · rw [List.getElem?_eq_none (by simpa using hv)] at h; cases h
    · rw [List.getElem?_set_ne hi] at h
      obtain ⟨h1, h2⟩ := wipe1_slot (vs := vs) (e := e) h
      exact ⟨h1, by simp only [List.mem_cons, not_or]; exact ⟨fun e => hi e.symm, h2⟩⟩
theorem EnvOk.wipe {O : Ow} {φ : List Addr} {H : Hp} {σ : L2.St} {env : Env1} (h : EnvOk C L O φ H σ env) (vs : List Nat) : EnvOk C L O φ H (L2.wipe σ vs) (wipe1 env vs) :=
  ⟨by rw [wipe1_length, wipe_length]; exact h.len, fun i w e => by
    obtain ⟨e1, hn⟩ := wipe1_slot e
    obtain ⟨v, e2, wo⟩ := h.at_ i w e1
    exact ⟨v, by rw [wipe_out hn]; exact e2, wo⟩⟩
section
variable {O O' O0 : Ow} {φ φ' φ0 : List Addr} {H H' H0 : Hp} {S S' : Sto} {D : Addr} {acc : List V} {o : HO}
theorem ne_own {a : Addr} (n : ¬ O a) (h : O D) : a ≠ D := fun z => n (by rw [z]; exact h)
theorem ne_mem {l : List Addr} {a : Addr} (n : D ∉ l) (h : a ∈ l) : a ≠ D := fun z => n (by rw [← z]; exact h)
/-- the list that grows: owned, of no slot of the store -/
theorem Dn.updO (hO : O D) (hD : H D = some (.lst acc)) {v : V} {x : RW.D} (h : Dn C O H v x) : Dn C O (upd H D o) v x :=
  Dn.mono' (fun a u e n _ => by rw [upd_ne (ne_own n hO)]; exact e) (fun _ _ _ z => z) (fun a vs e => by rw [upd_ne fun z => by subst z; rw [hD] at e; cases e]; exact e) h
theorem DnA.updO (hO : O D) (hD : H D = some (.lst acc)) {vs : List V} {xs : List RW.D} (h : DnA C O H vs xs) : DnA C O (upd H D o) vs xs :=
  DnA.mono' (fun a u e n _ => by rw [upd_ne (ne_own n hO)]; exact e) (fun _ _ _ z => z) (fun a vs e => by rw [upd_ne fun z => by subst z; rw [hD] at e; cases e]; exact e) h
theorem WOk.updO (hO : O D) (hD : H D = some (.lst acc)) {v : V} {w : W} (h : WOk C L O φ H v w) : WOk C L O φ (upd H D o) v w := by
  cases w with
  | d x => exact Dn.updO hO hD h
  | ref i => exact h
  | refs l =>
    obtain ⟨a, as, r, no, e, m⟩ := h
    exact ⟨a, as, r, no, by rw [upd_ne (ne_own no hO)]; exact e, m⟩
  | drefs l =>
    obtain ⟨a, as, r, no, e, m⟩ := h
    exact ⟨a, as, r, no, by rw [upd_ne (ne_own no hO)]; exact e, m⟩
  | clo k cs => exact h
  | scr ns =>
    obtain ⟨a, r, q⟩ := h
    refine ⟨a, r, q.imp id fun ⟨o, no, e, z⟩ => ⟨o, no, by rw [upd_ne (ne_own no hO)]; exact e, z⟩⟩
theorem WsOk.updO (hO : O D) (hD : H D = some (.lst acc)) : ∀ {vs : List V} {ws : List W}, WsOk C L O φ H vs ws → WsOk C L O φ (upd H D o) vs ws
  | [], [], _ => True.intro
  | _ :: _, _ :: _, h => ⟨h.1.updO hO hD, WsOk.updO hO hD h.2⟩
  | [], _ :: _, h => h
  | _ :: _, [], h => h
theorem EnvOk.updO {σ : L2.St} {env : Env1} (hO : O D) (hD : H D = some (.lst acc)) (h : EnvOk C L O φ H σ env) : EnvOk C L O φ (upd H D o) σ env :=
  ⟨h.len, fun i w e => let ⟨v, e1, e2⟩ := h.at_ i w e; ⟨v, e1, e2.updO hO hD⟩⟩
theorem Src.updO {J : L2.It} {xs : List RW.D} (hO : O D) (hD : H D = some (.lst acc)) (s : Src C O H J xs) : Src C O (upd H D o) J xs := by
  cases s with
  | list d => exact .list (d.updO hO hD)
  | tup d => exact .tup (d.updO hO hD)
  | rng lo n => exact .rng lo n
  | str z => exact .str z
  | enum d => exact .enum (d.updO hO hD)
  | zip d d' => exact .zip (d.updO hO hD) (d'.updO hO hD)
  | zipL d d' => exact .zipL (d.updO hO hD) (d'.updO hO hD)
theorem Sim.updO {ys : List V} (hO : O D) (hD : H D = some (.lst acc)) (hφ : D ∉ φ) (sm : Sim C O φ H S) : Sim C O φ (upd H D (.lst ys)) S :=
  ⟨sm.len, sm.nd, fun i mo a e1 e2 => (sm.at_ i mo a e1 e2).step (fun u e => by rw [upd_ne (ne_mem hφ (List.mem_of_getElem? e2))]; exact e) (fun vs xs h => h.updO hO hD) id,
    fun a h => by
      by_cases ha : a = D
      · subst ha; exact ⟨_, upd_same, ⟨(fun _ z => nomatch z), (fun _ z => nomatch z), (fun _ z => nomatch z)⟩⟩
      · rw [upd_ne ha]; exact sm.ow a h,
    fun a h => by rw [upd_ne (ne_mem hφ h)]; exact sm.tr a h, tabs_keep sm.tb (fun b ps e => by rw [upd_ne (fun z => by subst z; rw [hD] at e; cases e)]; exact e) (fun b f e => by rw [upd_ne (fun z => by subst z; rw [hD] at e; cases e)]; exact e)⟩
theorem Nxt.updO {ys : List V} (h0 : H0 D = none) (hD : H D = some (.lst acc)) (n : Nxt O0 φ0 H0 O φ H) : Nxt O0 φ0 H0 O φ (upd H D (.lst ys)) :=
  ⟨fun a o e q t => by rw [upd_ne (ne_of_none e h0)]; exact n.keep a o e q t, n.own, n.back, fun a o e => by rw [upd_ne (ne_of_none e h0)]; exact n.gone a o e, n.pre, n.frs, fun a ps e => by rw [upd_ne (ne_of_none e h0)]; exact n.tbl a ps e⟩
/-- it begins -/
theorem Sim.begin (sm : Sim C O φ H S) (hD : H D = none) : Nxt O φ H (O.add D) φ (upd H D (.lst [])) ∧ Sim C (O.add D) φ (upd H D (.lst [])) S ∧ D ∉ φ := by
  have ne : ∀ b u, H b = some u → b ≠ D := fun b u e => ne_of_none e hD
  have nφ : D ∉ φ := fun z => by obtain ⟨u, e⟩ := sm.tr D z; rw [hD] at e; cases e
  have nx : Nxt O φ H (O.add D) φ (upd H D (.lst [])) := ⟨fun b u e _ _ => by rw [upd_ne (ne b u e)]; exact e, fun b h => h.imp id fun z => by rw [z]; exact hD, fun b h _ => .inl h, fun b u e => ⟨u, by rw [upd_ne (ne b u e)]; exact e⟩, List.prefix_refl _, fun b h => .inl h, fun b ps e => ⟨#[], by rw [upd_ne (ne b _ e), e]; simp⟩⟩
  refine ⟨nx, ⟨sm.len, sm.nd, fun i mo a e1 e2 => (sm.at_ i mo a e1 e2).step (fun u e => by rw [upd_ne (ne a u e)]; exact e) (fun vs xs h => h.mono sm nx) .inl, fun a h => ?_, fun a h => ?_, sm.tb.ext fun b u e => by rw [upd_ne (ne b u e)]; exact e⟩, nφ⟩
  · rcases h with h | h
    · obtain ⟨u, e, q⟩ := sm.ow a h
      exact ⟨u, by rw [upd_ne (ne a u e)]; exact e, q⟩
    · subst h; exact ⟨_, upd_same, ⟨(fun _ z => nomatch z), (fun _ z => nomatch z), (fun _ z => nomatch z)⟩⟩
  · obtain ⟨u, e⟩ := sm.tr a h
    exact ⟨u, by rw [upd_ne (ne a u e)]; exact e⟩
/-- it ends: D is owned no more -/
theorem Sim.end_ (sm0 : Sim C O0 φ0 H0 S) (h0 : H0 D = none) (sm : Sim C O φ H S') (hφ : D ∉ φ) (n : Nxt O0 φ0 H0 O φ H) : Nxt O0 φ0 H0 (O.sub D) φ H ∧ Sim C (O.sub D) φ H S' := by
  refine ⟨⟨n.keep, fun a h => n.own a h.1, fun a h q => ⟨n.back a h q, fun z => ?_⟩, n.gone, n.pre, n.frs, n.tbl⟩, ⟨sm.len, sm.nd, fun i mo a e1 e2 => (sm.at_ i mo a e1 e2).step (fun u e => e) (fun vs xs h => h.less fun b h => h.1) fun h => ⟨h, ne_mem hφ (List.mem_of_getElem? e2)⟩, fun a h => sm.ow a h.1, sm.tr, sm.tb⟩⟩
  obtain ⟨o, e, _⟩ := sm0.ow a h
  rw [z, h0] at e; cases e
theorem prefs_ok : ∀ {vs : List V} {ws : List W} {l : List Nat}, WsOk C L O φ H vs ws → prefs ws = some l → ∃ as : List Addr, vs = as.map V.ref ∧ l.map (fun i => φ[i]?) = as.map some
  | [], [], l, _, e => by cases e; exact ⟨[], rfl, rfl⟩
  | v :: vs, w :: ws, l, h, e => by
    cases w with
    | ref i =>
      obtain ⟨r, e1, rfl⟩ := Option.map_eq_some_iff.mp e
      obtain ⟨as, rfl, m⟩ := prefs_ok h.2 e1
      obtain ⟨a, ea, rfl⟩ := h.1
      exact ⟨a :: as, rfl, by rw [List.map_cons, List.map_cons, m, ea]⟩
    | _ => cases e
  | [], _ :: _, _, h, _ => h.elim
  | _ :: _, [], _, h, _ => h.elim
/-- the list that was made -/
theorem mkL_ok {ws : List W} {w : W} (hO : ¬ O D) (hD : H D = some (.lst acc)) (h : WsOk C L O φ H acc ws) (e : mkL ws = some w) : WOk C L O φ H (.ref D) w := by
  unfold mkL at e
  split at e
  · split at e
    · rename_i xs ex
      cases e
      exact Dn.list hO hD (h.pds ex)
    · obtain ⟨l, el, rfl⟩ := Option.map_eq_some_iff.mp e
      obtain ⟨as, rfl, m⟩ := prefs_ok h el
      exact ⟨D, as, rfl, hO, hD, m⟩
  · cases e
theorem mkL_lim {ws : List W} {w : W} (e : mkL ws = some w) : ws.length ≤ sizeLine := by
  unfold mkL at e
  split at e
  · rename_i h
    exact lim_le h
  · cases e
theorem WsOk.lessO {vs : List V} {ws : List W} (l : ∀ a, O' a → O a) : ∀ {vs : List V} {ws : List W}, WsOk C L O φ H vs ws → WsOk C L O' φ H vs ws
  | [], [], _ => True.intro
  | v :: vs, w :: ws, h => ⟨by
      cases w with
      | d x => exact Dn.less l h.1
      | ref i => exact h.1
      | refs l' =>
        obtain ⟨a, as, r, no, e, m⟩ := h.1
        exact ⟨a, as, r, fun z => no (l a z), e, m⟩
      | drefs l' =>
        obtain ⟨a, as, r, no, e, m⟩ := h.1
        exact ⟨a, as, r, fun z => no (l a z), e, m⟩
      | clo k cs => exact h.1
      | scr ns =>
        obtain ⟨a, r, q⟩ := h.1
        exact ⟨a, r, q.imp id fun ⟨o, no, e, z⟩ => ⟨o, fun z => no (l a z), e, z⟩⟩, WsOk.lessO (vs := vs) (ws := ws) l h.2⟩
  | [], _ :: _, h => h
  | _ :: _, [], h => h
end
def lcW (own : List Nat) (t : Tg) (mi : Env1 → Sto → Option (List D × Sto)) (mt : Env1 → Sto → Option (Bool × Sto)) (me : Env1 → Sto → Option (W × Sto)) : Env1 → Sto → Option (W × Sto) := fun e S =>
  bd (mi e S) fun xs S => bd (lcR (fun w => asgT (wipe1 e own) t w) mt me xs S) fun ws S => (mkL ws).map fun w => (w, S)
theorem lc_read {own : List Nat} {t : Tg} {mi : Env1 → Sto → Option (List D × Sto)} {mt : Env1 → Sto → Option (Bool × Sto)} {me : Env1 → Sto → Option (W × Sto)} (hsl : ∀ i, i ∈ t.slots → i ∈ own) {σ : L2.St} {H : Hp} {Q : VK} (h : tE C L (lcW own t mi mt me) σ H Q) :
    tLc (tI C L mi) (tG C L t) (tT C L mt) (tE C L me) own σ H Q := by
  obtain ⟨O, φ, S, env, w, S', at_, e, h⟩ := h
  obtain ⟨xs, S1, e1, e2⟩ := bd_eq e
  obtain ⟨ws, S2, e3, e4⟩ := bd_eq e2
  obtain ⟨w', ew, e5⟩ := Option.map_eq_some_iff.mp e4
  cases e5
  refine ⟨O, φ, S, env, xs, S1, at_, e1, fun J O1 φ1 H1 n1 sm1 src D hD => ?_⟩
  have at1 := at_.next n1 sm1
  refine ⟨fun i m H => m = xs.length - i ∧ i ≤ xs.length ∧ ∃ O' φ' S3 acc wacc wrest, Sim C O' φ' H S3 ∧ EnvOk C L O' φ' H (wipe σ own) (wipe1 env own) ∧ O' D ∧ D ∉ φ' ∧ H D = some (.lst acc) ∧ WsOk C L O' φ' H acc wacc ∧
      lcR (fun w => asgT (wipe1 env own) t w) mt me (xs.drop i) S3 = some (wrest, S') ∧ wacc ++ wrest = ws ∧ Nxt O1 φ1 H1 O' φ' H ∧ Src C O' H J xs, ⟨xs.length, by simp, Nat.zero_le _, ?_⟩, ?_⟩
  · obtain ⟨nb, smb, nφ⟩ := sm1.begin hD
    exact ⟨O1.add D, φ1, S1, [], [], ws, smb, (at1.env.wipe own).mono sm1 nb, .inr rfl, nφ, upd_same, True.intro, e3, rfl, nb, src.mono sm1 nb⟩
  · rintro i m H2 ⟨rfl, hi, O', φ', S3, acc, wacc, wrest, sm, env', hO, hφ, hHD, wo, er, ews, nx, src'⟩
    by_cases hlt : i < xs.length
    · refine .inr ⟨src'.go hlt, fun H' => (xs.length - (i + 1) = xs.length - (i + 1) ∧ i + 1 ≤ xs.length ∧ ∃ O' φ' S3 acc wacc wrest, Sim C O' φ' H' S3 ∧ EnvOk C L O' φ' H' (wipe σ own) (wipe1 env own) ∧ O' D ∧ D ∉ φ' ∧ H' D = some (.lst acc) ∧ WsOk C L O' φ' H' acc wacc ∧
        lcR (fun w => asgT (wipe1 env own) t w) mt me (xs.drop (i + 1)) S3 = some (wrest, S') ∧ wacc ++ wrest = ws ∧ Nxt O1 φ1 H1 O' φ' H' ∧ Src C O' H' J xs), fun H' q => ⟨xs.length - (i + 1), by omega, q⟩, fun x H3 y => ?_⟩
      obtain ⟨g, dx, ex, dn⟩ := src'.yld hlt y
      have hd : xs.drop i = dx :: xs.drop (i + 1) := by
        rw [List.drop_eq_getElem_cons hlt]
        rw [List.getElem?_eq_getElem hlt] at ex
        cases ex; rfl
      rw [hd] at er
      unfold lcR at er
      obtain ⟨env1, ea, er⟩ := ob_eq er
      obtain ⟨b, S4, eb, er⟩ := bd_eq er
      have nxt3 := nx.trans (fun a h => let ⟨o, e, _⟩ := sm1.ow a h; ⟨o, e⟩) (g.nxt (O := O') (φ := φ'))
      have sm3 := sm.gr g
      have env3 := env'.mono sm (g.nxt (O := O') (φ := φ'))
      have hD3 := g.keep _ _ hHD
      refine ⟨O', φ', S3, _, .d dx, env1, ⟨sm3, env3⟩, dn, ea, fun σ2 hl2 env2 fr => ⟨?_, ?_⟩⟩
      · have e1 : wipe σ2 own = wipe (wipe σ own) own := wipe_eq (by rw [hl2]) fun j hj => fr j fun z => hj (hsl j z)
        rw [e1]
        exact wipe_eq (by rw [wipe_length]) fun j hj => wipe_out hj
      · refine ⟨O', φ', S3, env1, b, S4, ⟨sm3, env2⟩, eb, fun O4 φ4 H4 n4 sm4 => ?_⟩
        have nφ4 : D ∉ φ4 := fun z => (n4.frs D z).elim hφ fun q => by rw [hD3] at q; cases q
        have hD4 := n4.keep D _ hD3 (.inl hφ) fun _ z => nomatch z
        have hO4 := n4.back D hO hφ
        have nx4 := nxt3.trans (fun a h => let ⟨o, e, _⟩ := sm1.ow a h; ⟨o, e⟩) n4
        have env4 := env3.mono sm3 n4
        have wo3 : WsOk C L O' φ' H3 acc wacc := wo.mono sm (g.nxt (O := O') (φ := φ'))
        have wo4 := wo3.mono sm3 n4
        have src4 := (src'.mono sm (g.nxt (O := O') (φ := φ'))).mono sm3 n4
        cases b with
        | true =>
          show (if true = true then _ else _)
          rw [if_pos rfl]
          simp only at er
          obtain ⟨w1, S5, ew1, er⟩ := bd_eq er
          obtain ⟨ws5, S6, ew5, er⟩ := bd_eq er
          cases er
          refine ⟨O4, φ4, S4, env1, w1, S5, ⟨sm4, env2.mono sm3 n4⟩, ew1, fun v O5 φ5 H5 n5 sm5 wv => ?_⟩
          have nφ5 : D ∉ φ5 := fun z => (n5.frs D z).elim nφ4 fun q => by rw [hD4] at q; cases q
          have hD5 := n5.keep D _ hD4 (.inl nφ4) fun _ z => nomatch z
          have hO5 := n5.back D hO4 nφ4
          have nx5 := nx4.trans (fun a h => let ⟨o, e, _⟩ := sm1.ow a h; ⟨o, e⟩) n5
          have hlen : acc.length < sizeLine := by
            have h1 := mkL_lim ew
            rw [← ews, List.length_append, List.length_cons, ← wo.length] at h1
            omega
          refine ⟨acc, hD5, hlen, rfl, hlt, O5, φ5, S5, acc ++ [v], wacc ++ [w1], ws5, sm5.updO hO5 hD5 nφ5, (env4.mono sm4 n5).updO hO5 hD5, hO5, nφ5, upd_same, ?_, ew5, by rw [List.append_assoc]; exact ews, nx5.updO hD hD5, (src4.mono sm4 n5).updO hO5 hD5⟩
          exact ((wo4.mono sm4 n5).app (vs' := [v]) (ws' := [w1]) ⟨wv, True.intro⟩).updO hO5 hD5
        | false =>
          show (if false = true then _ else _)
          rw [if_neg Bool.false_ne_true]
          exact ⟨rfl, hlt, O4, φ4, S4, acc, wacc, wrest, sm4, env4, hO4, nφ4, hD4, wo4, er, ews, nx4, src4⟩
    · have hi' : i = xs.length := by omega
      subst hi'
      rw [List.drop_length] at er
      cases er
      rw [List.append_nil] at ews
      subst ews
      obtain ⟨ne, sme⟩ := sm1.end_ hD sm hφ nx
      refine .inl ⟨src'.stop, h _ _ _ _ (n1.trans at_.ow ne) sme (mkL_ok (fun z => z.2 rfl) hHD (wo.lessO (vs := acc) (ws := wacc) fun b h => h.1) ew)⟩
/-! the rules -/
section
variable {m : Env1 → Sto → Option (W × Sto)} {mi : Env1 → Sto → Option (List D × Sto)} {mt : Env1 → Sto → Option (Bool × Sto)} {t : Tg} {elt tg iter : Expr} {ifs : List Expr} {scope : Scope} {own : List (Str × Nat)} {pos : Pos}
theorem pts_nilW : PTs X [] (tT C L fun _ S => some (true, S)) := ⟨fun pins s σ H Q I ⟨O, φ, S, env, b, S', at_, e, h⟩ => by
  cases e
  exact pts_nil.run pins s σ H Q I (h O φ H .refl at_.sim)⟩
theorem pe_lcW (hc : X.calm = true) (hN : X.N.Nodup) (hi : PI X tg iter (tI C L mi)) (ok : BlkOk X.N X.env.scope scope own)
    (hg : ∀ (s : Shared) (H : Hp) (A : Addr) (cl : List (Str × Addr)) (fp : List Addr), PG (X.blk s H scope (compEnvC scope cl A X.env) fp) tg (tG C L t)) (ht : ∀ (s : Shared) (H : Hp) (A : Addr) (cl : List (Str × Addr)) (fp : List Addr), PTs (X.blk s H scope (compEnvC scope cl A X.env) fp) ifs (tT C L mt))
    (he : ∀ (s : Shared) (H : Hp) (A : Addr) (cl : List (Str × Addr)) (fp : List Addr), PE (X.blk s H scope (compEnvC scope cl A X.env) fp) elt (tE C L m)) (hs : notSet iter = true) (hsl : ∀ i, i ∈ t.slots → i ∈ own.map (·.2)) :
    PE X (.ListComp elt [⟨tg, iter, ifs, 0⟩] scope pos) (tE C L (lcW (own.map (·.2)) t mi mt m)) :=
  (pe_lc hc hN hi ok hg ht he fun _ => fold_of hs).imp fun σ H Q h => lc_read hsl h
end
end RW
set_option Elab.async false
set_option linter.all false
set_option maxRecDepth 100000
set_option maxHeartbeats 2000000
namespace RW
open PySem PySem.W PyProof.Rows L2
variable {X : Cx} {C : DC} {L : Clo}
/-! ### statements -/
abbrev Mt := Env1 → Sto → Option ((Fl × Env1) × Sto)
/-- what is wanted behind a statement, by how it ended -/
def FlOk (C : DC) (L : Clo) (O : Ow) (φ : List Addr) (H : Hp) (D : Ends) (σ : L2.St) (env : Env1) : Fl → Prop
  | .nx => EnvOk C L O φ H σ env → D.nx σ H
  | .bk => EnvOk C L O φ H σ env → D.bk σ H
  | .ct => EnvOk C L O φ H σ env → D.ct σ H
  | .rt w => ∀ v, WOk C L O φ H v w → D.rt v H
def tS (C : DC) (L : Clo) (m : Mt) : TS := fun D σ H => ∃ O φ S env fl env' S', At C L O φ H σ env S ∧ m env S = some ((fl, env'), S') ∧ ∀ σ' O' φ' H', σ'.length = σ.length → Nxt O φ H O' φ' H' → Sim C O' φ' H' S' → FlOk C L O' φ' H' D σ' env' fl
section
variable {m m1 m2 m3 : Env1 → Sto → Option (W × Sto)} {ms : Env1 → Sto → Option (List W × Sto)} {mi : Env1 → Sto → Option (List D × Sto)} {mt : Env1 → Sto → Option (Bool × Sto)} {s1 s2 : Mt} {a b c o : Expr} {es : List Expr} {pos : Pos} {st : Stmt} {sts sts2 : List Stmt} {t : Tg} {tg iter : Expr}
theorem pss_nilW : PSs X [] (tS C L fun e S => some ((.nx, e), S)) := pss_nil.imp fun D σ H ⟨O, φ, S, env, fl, env', S', at_, e, h⟩ => by
  cases e
  exact h σ O φ H rfl .refl at_.sim at_.env
def seqW (s1 s2 : Mt) : Mt := fun e S => bd (s1 e S) fun p S => match p with
    | (.nx, e) => s2 e S
    | p => some (p, S)
theorem pss_consW (h1 : PS X st (tS C L s1)) (h2 : PSs X sts (tS C L s2)) : PSs X (st :: sts) (tS C L (seqW s1 s2)) :=
  (pss_cons h1 h2).imp fun D σ H ⟨O, φ, S, env, fl, env', S', at_, e, h⟩ => by
    obtain ⟨⟨f1, env1⟩, S1, e1, e2⟩ := bd_eq e
    refine ⟨O, φ, S, env, f1, env1, S1, at_, e1, fun σ' O' φ' H' hl n sm => ?_⟩
    cases f1 with
    | nx =>
      exact fun en => ⟨O', φ', S1, env1, fl, env', S', ⟨sm, en⟩, e2, fun σ2 O2 φ2 H2 hl2 n2 sm2 => by
        have := h σ2 O2 φ2 H2 (hl2.trans hl) (n.trans at_.ow n2) sm2
        cases fl <;> exact this⟩
    | bk =>
      cases e2
      exact h σ' O' φ' H' hl n sm
    | ct =>
      cases e2
      exact h σ' O' φ' H' hl n sm
    | rt w =>
      cases e2
      exact h σ' O' φ' H' hl n sm
theorem ps_asgW (he : PE X a (tE C L m)) (hg : PG X tg (tG C L t)) (hs : swapsWithSole [tg] a pos.line X.env = pure false) (hw : swappedStores [tg] a X.env = pure none)
    (h1 : (assignEach [tg] X.env).map (·.2) = [assign tg X.env]) : PS X (.Assign [tg] a pos) (tS C L fun e S => bd (m e S) fun w S => ob (asgT e t w) fun e => some ((.nx, e), S)) :=
  (ps_asg he hg hs hw h1).imp fun D σ H ⟨O, φ, S, env, fl, env', S', at_, e, h⟩ => by
    refine tE.seq at_ e fun v w O1 φ1 H1 S1 n1 at1 w1 e => ?_
    obtain ⟨env1, ea, e⟩ := ob_eq e
    cases e
    exact ⟨O1, φ1, _, env, w, _, at1, w1, ea, fun σ' hl en _ => h σ' O1 φ1 H1 hl n1 at1.sim en⟩
/-- y = [..] on one line -/
theorem ps_lcW {mt : Env1 → Sto → Option (Bool × Sto)} {i : Nat} {y : Str} {py : Pos} {elt tg' : Expr} {ifs : List Expr} {scope : Scope} {own : List (Str × Nat)} {lpos spos : Pos} {tl : Tg} (hc : X.calm = true) (hN : X.N.Nodup) (hy : X.N[i]? = some y) (hyl : X.env.scope.names.lookup y = some .local)
    (hsw : swapsWith (.ListComp elt [⟨tg', iter, ifs, 0⟩] scope lpos) (some (.Name y py)) spos.line X.env = pure true) (hi : PI X tg' iter (tI C L mi)) (ok : BlkOk X.N X.env.scope scope own)
    (hg : ∀ (s : Shared) (H : Hp) (A : Addr) (cl : List (Str × Addr)) (fp : List Addr), PG (X.blk s H scope (compEnvC scope cl A X.env) fp) tg' (tG C L tl)) (ht : ∀ (s : Shared) (H : Hp) (A : Addr) (cl : List (Str × Addr)) (fp : List Addr), PTs (X.blk s H scope (compEnvC scope cl A X.env) fp) ifs (tT C L mt))
    (he : ∀ (s : Shared) (H : Hp) (A : Addr) (cl : List (Str × Addr)) (fp : List Addr), PE (X.blk s H scope (compEnvC scope cl A X.env) fp) elt (tE C L m)) (hs : notSet iter = true) (hsl : ∀ i, i ∈ tl.slots → i ∈ own.map (·.2)) :
    PS X (.Assign [.Name y py] (.ListComp elt [⟨tg', iter, ifs, 0⟩] scope lpos) spos) (tS C L fun e S => bd (lcW (own.map (·.2)) tl mi mt m e S) fun w S => ob (asgT e (.nm i) w) fun e => some ((.nx, e), S)) :=
  (ps_setLc hc hN hy hyl hsw hi ok hg ht he fun _ => fold_of hs).imp fun D σ H ⟨O, φ, S, env, fl, env', S', at_, e, h⟩ => by
    refine lc_read hsl ?_
    refine tE.seq at_ e fun v w O1 φ1 H1 S1 n1 at1 w1 e => ?_
    obtain ⟨env1, ea, e⟩ := ob_eq e
    cases e
    obtain ⟨h1, rfl⟩ := asg1_eq ea
    exact h _ O1 φ1 H1 (by rw [List.length_set]) n1 at1.sim (at1.env.set h1 w1)
/-! several at once -/
theorem asgW_ok {O : Ow} {φ : List Addr} {H : Hp} : ∀ {l : List Nat} {vs : List V} {ws : List W} {σ : L2.St} {env env' : Env1}, EnvOk C L O φ H σ env → WsOk C L O φ H vs ws → asgW env l ws = some env' → EnvOk C L O φ H (setAll σ l vs) env' ∧ vs.length = l.length
  | [], [], [], σ, env, env', h, _, e => by cases e; exact ⟨h, rfl⟩
  | i :: l, v :: vs, w :: ws, σ, env, env', h, hw, e => by
    unfold asgW at e
    obtain ⟨e1, h1, h2⟩ := ob_eq e
    obtain ⟨h3, rfl⟩ := asg1_eq h1
    obtain ⟨h4, h5⟩ := asgW_ok (h.set h3 hw.1) hw.2 h2
    exact ⟨h4, by simp [h5]⟩
  | [], _, _ :: _, _, _, _, _, _, e => by cases e
  | _ :: _, _, [], _, _, _, _, _, e => by cases e
  | [], _ :: _, [], _, _, _, _, h, _ => h.elim
  | _ :: _, [], _ :: _, _, _, _, _, h, _ => h.elim
def parW (l : List Nat) (ms : Env1 → Sto → Option (List W × Sto)) : Mt := fun e S => bd (ms e S) fun ws S => ob (asgW e l ws) fun e => some ((.nx, e), S)
theorem ps_parW2 {i j : Nat} {x y : Str} {px py pt : Pos} {kt k2 : Nat} {pt2 : Pos} (hc : X.calm = true) (hN : X.N.Nodup) (hi : X.N[i]? = some x) (hj : X.N[j]? = some y) (hij : i ≠ j)
    (hx : X.env.scope.names.lookup x = some .local) (hy : X.env.scope.names.lookup y = some .local) (ha : PA X [a, b] (tA C L ms))
    (hw : swappedStores [.Tuple [.Name x px, .Name y py] kt pt] (.Tuple [a, b] k2 pt2) X.env = pure (some [x, y])) :
    PS X (.Assign [.Tuple [.Name x px, .Name y py] kt pt] (.Tuple [a, b] k2 pt2) pos) (tS C L (parW [i, j] ms)) :=
  (ps_par hc hN hi hj hij hx hy ha hw rfl).imp fun D σ H ⟨O, φ, S, env, fl, env', S', at_, e, h⟩ => by
    refine tA.seq at_ e fun vs ws O1 φ1 H1 S1 n1 at1 w1 e => ?_
    obtain ⟨env1, ea, e⟩ := ob_eq e
    cases e
    obtain ⟨h1, h2⟩ := asgW_ok at1.env w1 ea
    match vs, h2, h1 with
    | [v, w], _, h1 => exact ⟨v, w, rfl, h _ O1 φ1 H1 (by simp [setAll]) n1 at1.sim h1⟩
theorem ps_parW3 {i j l : Nat} {x y z : Str} {px py pz pt : Pos} {kt k2 : Nat} {pt2 : Pos} (hc : X.calm = true) (hN : X.N.Nodup) (hi : X.N[i]? = some x) (hj : X.N[j]? = some y) (hl : X.N[l]? = some z) (hij : i ≠ j) (hil : i ≠ l) (hjl : j ≠ l)
    (hx : X.env.scope.names.lookup x = some .local) (hy : X.env.scope.names.lookup y = some .local) (hz : X.env.scope.names.lookup z = some .local) (ha : PA X [a, b, c] (tA C L ms))
    (hw : swappedStores [.Tuple [.Name x px, .Name y py, .Name z pz] kt pt] (.Tuple [a, b, c] k2 pt2) X.env = pure (some [x, y, z])) :
    PS X (.Assign [.Tuple [.Name x px, .Name y py, .Name z pz] kt pt] (.Tuple [a, b, c] k2 pt2) pos) (tS C L (parW [i, j, l] ms)) :=
  (ps_par3 hc hN hi hj hl hij hil hjl hx hy hz ha hw rfl).imp fun D σ H ⟨O, φ, S, env, fl, env', S', at_, e, h⟩ => by
    refine tA.seq at_ e fun vs ws O1 φ1 H1 S1 n1 at1 w1 e => ?_
    obtain ⟨env1, ea, e⟩ := ob_eq e
    cases e
    obtain ⟨h1, h2⟩ := asgW_ok at1.env w1 ea
    match vs, h2, h1 with
    | [u, v, w], _, h1 => exact ⟨u, v, w, rfl, h _ O1 φ1 H1 (by simp [setAll]) n1 at1.sim h1⟩
/-- by a tuple that is made -/
theorem ps_parWT {l : List Nat} {tes : List Expr} {kt k2 : Nat} {pt pt2 : Pos} (hK : C.K = X.K) (hc : X.calm = true) (hg : PGs X tes (gNames l)) (hn : (assignEach tes X.env).length = l.length) (hst : (assignEach tes X.env).findIdx? (·.1) = none) (ha : PA X es (tA C L ms)) (hll : l.length ≤ 100)
    (hw : swappedStores [.Tuple tes kt pt] (.Tuple es k2 pt2) X.env = pure none) : PS X (.Assign [.Tuple tes kt pt] (.Tuple es k2 pt2) pos) (tS C L (parW l ms)) :=
  (ps_asg (pe_tup ha) (pg_tup hc hg hn hst) rfl hw rfl).imp fun D σ H ⟨O, φ, S, env, fl, env', S', at_, e, h⟩ => by
    refine tA.seq at_ e fun vs ws O1 φ1 H1 S1 n1 at1 w1 e => ?_
    obtain ⟨env1, ea, e⟩ := ob_eq e
    cases e
    obtain ⟨h1, h2⟩ := asgW_ok at1.env w1 ea
    refine ⟨by rw [h2, sizeLine_eq]; omega, fun p hp => ?_⟩
    have at2 := at1.gr (Gr.new (o := .tup vs) hp)
    have h3 : EnvOk C L O1 φ1 (upd H1 p (.tup vs)) (setAll σ l vs) env' := h1.mono at1.sim (Gr.new hp).nxt
    exact ⟨p, vs, rfl, .inl (.inl upd_same), h2, gNames_of h2 (h _ O1 φ1 _ setAll_length (n1.trans at_.ow (Gr.new hp).nxt) at2.sim h3)⟩
/-! stores -/
theorem PSet.or {r r' : TSet} (h : PSet X r) (h' : PSet X r') : PSet X (fun o i v H Q => r o i v H Q ∨ r' o i v H Q) := fun pins s σ H o i v ov iv u Q I ro ri rv q => q.elim (h pins s σ H o i v ov iv u Q I ro ri rv) (h' pins s σ H o i v ov iv u Q I ro ri rv)
def tI2 (C : DC) (L : Clo) : TSet := fun o i v H Q => ∃ (O : Ow) (φ : List Addr) (S : Sto) (n : Nat) (k x : D) (S' : Sto), Sim C O φ H S ∧ WOk C L O φ H o (.ref n) ∧ Dn C O H i k ∧ Dn C O H v x ∧ setIS S n k x = some S' ∧ ∀ H', Nxt O φ H O φ H' → Sim C O φ H' S' → Q H'
theorem set_W (hu : X.A.units + 64 < cLine) : PSet X (tI2 C L) := by
  intro pins s σ H o i v ov iv u Q I ro ri rv ⟨O, φ, S, n, k, x, S', sm, wo, dk, dx, e, q⟩
  obtain ⟨a, ea, rfl⟩ := wo
  unfold setIS at e
  split at e
  · rename_i xs es
    obtain ⟨ha, vs, eh, t⟩ := sm.at_ n _ a es ea
    split at e
    · rename_i j
      split at e
      · rename_i hj
        have hj : 0 ≤ j ∧ j < xs.length := of_decide_eq_true hj
        cases e
        cases dk
        obtain ⟨nx, smk⟩ := sm.write (mo := .lst (xs.set j.toNat x)) (o := .lst (vs.set j.toNat v)) ea ha (fun _ z => nomatch z) fun _ z => nomatch z
        refine set_list pins s σ H _ _ v ov iv u Q I ro ri rv ⟨a, vs, j, j.toNat, rfl, rfl, eh, ?_, q _ nx (smk ⟨ha, _, upd_same, (t.set dx _).mono sm nx⟩)⟩
        unfold ixN
        rw [if_pos hj.1, t.length, if_pos hj.2]
      · cases e
    · cases e
  · rename_i tg kvs es
    split at e
    · rename_i hk
      cases e
      rw [Bool.and_eq_true, Bool.and_eq_true] at hk
      have hl : kvs.length < LIM := of_decide_eq_true hk.2
      have mo := sm.at_ n _ a es ea
      rcases keyD_of hk.1.1 with ⟨kk, rfl, tf⟩ | ⟨ks, rfl, l3⟩
      · rw [tf] at hk
        cases tg with
        | true => cases hk.1.2
        | false =>
          obtain ⟨ha, vs, e1, m, t⟩ := mo
          have ev := dk.kV
          subst ev
          obtain ⟨nx, smk⟩ := sm.write (mo := .dct false (dput kvs (kD kk) x)) (o := .dK (putK vs kk v)) ea ha (fun _ z => nomatch z) fun _ z => nomatch z
          obtain ⟨r1, r2⟩ := dput_rel (f := kD) eqv_kD kk dx m t
          have el : kvs.length = vs.length := by simpa using congrArg List.length m
          refine set_dict (by omega) pins s σ H _ _ v ov iv u Q I ro ri rv ⟨a, _, rfl, DPut.k e1 (by rw [← el]; exact lim_lt (decide_eq_true hl)), q _ nx (smk ⟨ha, _, upd_same, r1, r2.mono sm nx⟩)⟩
      · cases tg with
        | false => cases hk.1.2
        | true =>
          obtain ⟨ha, vs, e1, m, t⟩ := mo
          obtain ⟨b, rfl, eb⟩ := dk.keyT l3
          obtain ⟨nx, smk⟩ := sm.write (mo := .dct true (dput kvs (.tuple (ks.map kD)) x)) (o := .dT (putK vs ks v)) ea ha (fun _ z => nomatch z) fun _ z => nomatch z
          obtain ⟨r1, r2⟩ := dput_rel (f := fun ks : List Key => PyData.tuple (ks.map kD)) eqv_kT ks dx m t
          have el : kvs.length = vs.length := by simpa using congrArg List.length m
          refine set_dict (by omega) pins s σ H _ _ v ov iv u Q I ro ri rv ⟨a, _, rfl, DPut.t e1 eb (by rw [← el]; exact lim_lt (decide_eq_true hl)), q _ nx (smk ⟨ha, _, upd_same, r1, r2.mono sm nx⟩)⟩
    · cases e
  · cases e
theorem ps_setIW {p : Pos} (hu : X.A.units + 64 < cLine) (hb : PE X b (tE C L m1)) (ha : PE X a (tE C L m2)) (hi : PE X c (tE C L m3)) (hlc : notLc b = true) (hnt : ∀ v, assign (.Subscript a c p) X.env v = (do
      let ov ← holding [v] (eval a X.env)
      let iv ← holding [v, ov] (eval c X.env)
      standAt p
      holding [v, ov, iv] (setItem ov iv v)
      release [v, ov, iv] [])) : PS X (.Assign [.Subscript a c p] b pos) (tS C L fun e S => bd (m1 e S) fun x S => bd (m2 e S) fun r S => bd (m3 e S) fun k S => match r with
    | .ref n => ob (pd k) fun k => ob (pd x) fun x => ob (setIS S n k x) fun S => some ((.nx, e), S)
    | _ => none) :=
  (ps_asg hb (pg_sub ha hi (set_W (C := C) (L := L) hu) hnt) (by cases b <;> first | rfl | cases hlc) (by cases b <;> rfl) rfl).imp fun D σ H ⟨O, φ, S, env, fl, env', S', at_, e, h⟩ => by
    refine tE.seq at_ e fun v x O1 φ1 H1 S1 n1 at1 w1 e => ?_
    refine tE.seq at1 e fun v2 r O2 φ2 H2 S2 n2 at2 w2 e => ?_
    refine tE.seq at2 e fun v3 k O3 φ3 H3 S3 n3 at3 w3 e => ?_
    split at e
    · rename_i n
      obtain ⟨dk, ek, e⟩ := ob_eq e
      obtain ⟨dx, ex, e⟩ := ob_eq e
      obtain ⟨S4, es, e⟩ := ob_eq e
      cases e
      obtain rfl := pd_eq ek
      obtain rfl := pd_eq ex
      have n23 := n2.trans at1.ow n3
      refine ⟨O3, φ3, S3, _, dk, dx, _, at3.sim, w2.mono at2.sim n3, wk_d w3, wk_d (w1.mono at1.sim n23), es, fun H' nx sm => ?_⟩
      exact h σ O3 φ3 H' rfl ((n1.trans at_.ow n23).trans at_.ow nx) sm (at3.env.mono at3.sim nx)
    · cases e
/-! the small ones -/
theorem ps_exW (ha : PE X a (tE C L m)) (hlc : notLc a = true) : PS X (.Expr a pos) (tS C L fun e S => bd (m e S) fun _ S => some ((.nx, e), S)) :=
  (ps_expr ha (sw_none hlc)).imp fun D σ H ⟨O, φ, S, env, fl, env', S', at_, e, h⟩ => by
    refine tE.seq at_ e fun v x O1 φ1 H1 S1 n1 at1 w1 e => ?_
    cases e
    exact h σ O1 φ1 H1 rfl n1 at1.sim at1.env
theorem ps_retW (ha : PE X a (tE C L m)) : PS X (.Return (some a) pos) (tS C L fun e S => bd (m e S) fun w S => some ((.rt w, e), S)) :=
  (ps_ret ha).imp fun D σ H ⟨O, φ, S, env, fl, env', S', at_, e, h⟩ => by
    refine tE.seq at_ e fun v x O1 φ1 H1 S1 n1 at1 w1 e => ?_
    cases e
    exact h σ O1 φ1 H1 rfl n1 at1.sim v w1
theorem ps_retNW : PS X (.Return none pos) (tS C L fun e S => some ((.rt (.d .none), e), S)) :=
  ps_retN.imp fun D σ H ⟨O, φ, S, env, fl, env', S', at_, e, h⟩ => by
    cases e
    exact h σ O φ H rfl .refl at_.sim .non .non
theorem ps_passW : PS X (.Pass pos) (tS C L fun e S => some ((.nx, e), S)) := ps_pass.imp fun D σ H ⟨O, φ, S, env, fl, env', S', at_, e, h⟩ => by
  cases e
  exact h σ O φ H rfl .refl at_.sim at_.env
theorem ps_neverW : PS X st (tS C L fun _ _ => none) := ps_never.imp fun D σ H ⟨O, φ, S, env, fl, env', S', at_, e, h⟩ => nomatch e
theorem ps_ifW (hc : PT X c (tT C L mt)) (ha : PSs X sts (tS C L s1)) (hb : PSs X sts2 (tS C L s2)) : PS X (.If c sts sts2 pos) (tS C L fun e S => bd (mt e S) fun c S => match c with
    | true => s1 e S
    | false => s2 e S) :=
  (ps_if hc ha hb).imp fun D σ H ⟨O, φ, S, env, fl, env', S', at_, e, h⟩ => by
    refine tT.seq at_ e fun b O1 φ1 H1 S1 n1 at1 e => ?_
    have fin : ∀ (s : Mt), s env S1 = some ((fl, env'), S') → tS C L s D σ H1 := fun s e => ⟨O1, φ1, S1, env, fl, env', S', at1, e, fun σ' O' φ' H' hl n sm => h σ' O' φ' H' hl (n1.trans at_.ow n) sm⟩
    cases b with
    | true => rw [if_pos rfl]; exact fin _ e
    | false => rw [if_neg Bool.false_ne_true]; exact fin _ e
/-! loops -/
theorem FlOk.trans {O : Ow} {φ : List Addr} {H : Hp} {D : Ends} {σ : L2.St} {env : Env1} {fl : Fl} (h : FlOk C L O φ H D σ env fl) : FlOk C L O φ H D σ env fl := h
def forW (t : Tg) (mi : Env1 → Sto → Option (List D × Sto)) (s1 : Mt) : Mt := fun e S => bd (mi e S) fun xs S => forR (fun w e => asgT e t w) s1 xs e S
theorem for_read {D : Ends} {H : Hp} {σ : L2.St} (h : tS C L (forW t mi s1) D σ H) : tFor (tI C L mi) (tG C L t) (tS C L s1) D σ H := by
  obtain ⟨O, φ, S, env, fl, env', S', at_, e, h⟩ := h
  obtain ⟨xs, S1, e1, e2⟩ := bd_eq e
  refine ⟨O, φ, S, env, xs, S1, at_, e1, fun J O1 φ1 H1 n1 sm1 src => ?_⟩
  have at1 := at_.next n1 sm1
  have ow1 : ∀ a, O1 a → ∃ o, H1 a = some o := at1.ow
  refine ⟨fun i m σ2 H2 => m = xs.length - i ∧ i ≤ xs.length ∧ σ2.length = σ.length ∧ ∃ O2 φ2 S2 env2, Sim C O2 φ2 H2 S2 ∧ EnvOk C L O2 φ2 H2 σ2 env2 ∧ forR (fun w e => asgT e t w) s1 (xs.drop i) env2 S2 = some ((fl, env'), S') ∧ Nxt O1 φ1 H1 O2 φ2 H2 ∧ Src C O2 H2 J xs,
    ⟨xs.length, by simp, Nat.zero_le _, rfl, O1, φ1, S1, env, sm1, at1.env, e2, .refl, src⟩, ?_⟩
  rintro i m σ2 H2 ⟨rfl, hi, hl, O2, φ2, S2, env2, sm2, en2, er, nx2, src2⟩
  by_cases hlt : i < xs.length
  · refine .inr ⟨src2.go hlt, fun σ' H' => (i + 1 ≤ xs.length ∧ σ'.length = σ.length ∧ ∃ O2 φ2 S2 env2, Sim C O2 φ2 H' S2 ∧ EnvOk C L O2 φ2 H' σ' env2 ∧ forR (fun w e => asgT e t w) s1 (xs.drop (i + 1)) env2 S2 = some ((fl, env'), S') ∧ Nxt O1 φ1 H1 O2 φ2 H' ∧ Src C O2 H' J xs),
      fun σ' H' q => ⟨xs.length - (i + 1), by omega, rfl, q⟩, fun x H3 y => ?_⟩
    obtain ⟨g, dx, ex, dn⟩ := src2.yld hlt y
    have hd : xs.drop i = dx :: xs.drop (i + 1) := by
      rw [List.drop_eq_getElem_cons hlt]
      rw [List.getElem?_eq_getElem hlt] at ex
      cases ex; rfl
    rw [hd] at er
    unfold forR at er
    obtain ⟨env3, ea, er⟩ := ob_eq er
    obtain ⟨⟨f3, env4⟩, S4, eb, er⟩ := bd_eq er
    have gn := g.nxt (O := O2) (φ := φ2)
    have sm3 := sm2.gr g
    have src3 := src2.mono sm2 gn
    have nx3 := nx2.trans ow1 gn
    refine ⟨O2, φ2, S2, _, .d dx, env3, ⟨sm3, en2.mono sm2 gn⟩, dn, ea, fun σ3 hl3 en3 _ => ?_⟩
    refine ⟨O2, φ2, S2, env3, f3, env4, S4, ⟨sm3, en3⟩, eb, fun σ4 O4 φ4 H4 hl4 n4 sm4 => ?_⟩
    have nx4 := nx3.trans ow1 n4
    have src4 := src3.mono sm3 n4
    have hl4' : σ4.length = σ.length := hl4.trans (hl3.trans hl)
    cases f3 with
    | nx => exact fun en4 => ⟨hlt, hl4', O4, φ4, S4, env4, sm4, en4, er, nx4, src4⟩
    | ct => exact fun en4 => ⟨hlt, hl4', O4, φ4, S4, env4, sm4, en4, er, nx4, src4⟩
    | bk =>
      cases er
      exact fun en4 => h σ4 O4 φ4 H4 hl4' (n1.trans at_.ow nx4) sm4 en4
    | rt w =>
      cases er
      exact fun v wo => h σ4 O4 φ4 H4 hl4' (n1.trans at_.ow nx4) sm4 v wo
  · have hi' : i = xs.length := by omega
    subst hi'
    rw [List.drop_length] at er
    cases er
    exact .inl ⟨src2.stop, h σ2 O2 φ2 H2 hl (n1.trans at_.ow nx2) sm2 en2⟩
theorem ps_forW (hp : PassesOwn (model X.prog X.w) X.A X.env X.xe) (hc : X.calm = true) (hi : PI X tg iter (tI C L mi)) (hg : PG X tg (tG C L t)) (hb : PSs X sts (tS C L s1)) (hs : notSet iter = true) : PS X (.For tg iter sts [] pos) (tS C L (forW t mi s1)) :=
  (ps_for hp hc hi hg hb fun _ => fold_of hs).imp fun D σ H h => for_read h
theorem while_read {k : Nat} {D : Ends} {H : Hp} {σ : L2.St} (h : tS C L (whlR mt s1 k) D σ H) : tWhile (tT C L mt) (tS C L s1) D σ H := by
  obtain ⟨O, φ, S, env, fl, env', S', at_, e, h⟩ := h
  refine ⟨fun m σ2 H2 => σ2.length = σ.length ∧ ∃ O2 φ2 S2 env2, Sim C O2 φ2 H2 S2 ∧ EnvOk C L O2 φ2 H2 σ2 env2 ∧ whlR mt s1 m env2 S2 = some ((fl, env'), S') ∧ Nxt O φ H O2 φ2 H2, ⟨k, rfl, O, φ, S, env, at_.sim, at_.env, e, .refl⟩, ?_⟩
  rintro m σ2 H2 ⟨hl, O2, φ2, S2, env2, sm2, en2, er, nx2⟩
  cases m with
  | zero => cases er
  | succ m =>
    unfold whlR at er
    refine tT.seq ⟨sm2, en2⟩ er fun b O3 φ3 H3 S3 n3 at3 er => ?_
    have nx3 := nx2.trans at_.ow n3
    cases b with
    | false =>
      cases er
      rw [if_neg Bool.false_ne_true]
      exact h σ2 O3 φ3 H3 hl nx3 at3.sim at3.env
    | true =>
      rw [if_pos rfl]
      obtain ⟨⟨f3, env4⟩, S4, eb, er⟩ := bd_eq er
      refine ⟨fun σ' H' => σ'.length = σ.length ∧ ∃ O2 φ2 S2 env2, Sim C O2 φ2 H' S2 ∧ EnvOk C L O2 φ2 H' σ' env2 ∧ whlR mt s1 m env2 S2 = some ((fl, env'), S') ∧ Nxt O φ H O2 φ2 H', fun σ' H' q => ⟨m, Nat.lt_succ_self m, q⟩, ?_⟩
      refine ⟨O3, φ3, S3, env2, f3, env4, S4, at3, eb, fun σ4 O4 φ4 H4 hl4 n4 sm4 => ?_⟩
      have nx4 := nx3.trans at_.ow n4
      have hl4' : σ4.length = σ.length := hl4.trans hl
      cases f3 with
      | nx => exact fun en4 => ⟨hl4', O4, φ4, S4, env4, sm4, en4, er, nx4⟩
      | ct => exact fun en4 => ⟨hl4', O4, φ4, S4, env4, sm4, en4, er, nx4⟩
      | bk =>
        cases er
        exact fun en4 => h σ4 O4 φ4 H4 hl4' nx4 sm4 en4
      | rt w =>
        cases er
        exact fun v wo => h σ4 O4 φ4 H4 hl4' nx4 sm4 v wo
theorem ps_whileW {fu : Option Nat} (hp : PassesOwn (model X.prog X.w) X.A X.env X.xe) (hc : PT X c (tT C L mt)) (hb : PSs X sts (tS C L s1)) : PS X (.While c sts [] pos) (tS C L fun e S => match fu with
    | some n => whlR mt s1 n e S
    | none => whlC mt s1 e S) :=
  (ps_while hp hc hb).imp fun D σ H h => by
    cases fu with
    | some n => exact while_read h
    | none =>
      obtain ⟨O, φ, S, env, fl, env', S', at_, e, h⟩ := h
      have e' : whlC mt s1 env S = some ((fl, env'), S') := e
      unfold whlC at e'
      split at e'
      · exact while_read ⟨O, φ, S, env, fl, env', S', at_, e', h⟩
      · cases e'
end
end RW
set_option Elab.async false
set_option linter.all false
set_option maxRecDepth 100000
set_option maxHeartbeats 2000000
namespace RW
open PySem PySem.W PyProof.Rows L2
variable {X : Cx} {C : DC} {L : Clo}
section
variable {m m1 m2 m3 : Env1 → Sto → Option (W × Sto)} {a b c o : Expr} {pos p : Pos}
/-- d[k], x = a pair -/
theorem ps_setITW {x : Str} {j k : Nat} {pt px : Pos} (hK : C.K = X.K) (hc : X.calm = true) (hN : X.N.Nodup) (hj : X.N[j]? = some x) (hx : Loc X.env.scope x) (hf : X.fn x = true ∨ X.env.scope.names.lookup x = some .local) (hu : X.A.units + 64 < cLine)
    (hb : PE X b (tE C L m1)) (ha : PE X a (tE C L m2)) (hi : PE X c (tE C L m3)) (hlc : notLc b = true) (hsw : swappedStores [.Tuple [.Subscript a c p, .Name x px] k pt] b X.env = pure none) (hnt : ∀ v, assign (.Subscript a c p) X.env v = (do
      let ov ← holding [v] (eval a X.env)
      let iv ← holding [v, ov] (eval c X.env)
      standAt p
      holding [v, ov, iv] (setItem ov iv v)
      release [v, ov, iv] [])) : PS X (.Assign [.Tuple [.Subscript a c p, .Name x px] k pt] b pos) (tS C L fun e S => bd (m1 e S) fun x S => match x with
    | .d (.tuple [x, y]) => bd (m2 e S) fun r S => bd (m3 e S) fun k S => match r with
      | .ref n => ob (pd k) fun k => ob (setIS S n k x) fun S => ob (asg1 e j (.d y)) fun e => some ((.nx, e), S)
      | _ => none
    | _ => none) :=
  (ps_asg hb (pg_tup hc (pgs_cons (pg_sub ha hi (set_W (C := C) (L := L) hu) hnt) (pgs_cons (pg_name hN hj hx hf) pgs_nil rfl) rfl) rfl rfl) (by cases b <;> first | rfl | cases hlc) hsw rfl).imp fun D σ H ⟨O, φ, S, env, fl, env', S', at_, e, h⟩ => by
    refine tE.seq at_ e fun v x O1 φ1 H1 S1 n1 at1 w1 e => ?_
    split at e
    · rename_i dx dy
      obtain ⟨q, vs, rfl, hq, t⟩ := (wk_d w1).tupleK
      cases t with
      | cons hdx t =>
      cases t with
      | cons hdy t =>
      cases t
      refine ⟨q, _, rfl, hK ▸ hq, rfl, _, _, rfl, ?_⟩
      refine tE.seq at1 e fun v2 r O2 φ2 H2 S2 n2 at2 w2 e => ?_
      refine tE.seq at2 e fun v3 k O3 φ3 H3 S3 n3 at3 w3 e => ?_
      split at e
      · rename_i n
        obtain ⟨dk, ek, e⟩ := ob_eq e
        obtain ⟨S4, es, e⟩ := ob_eq e
        obtain ⟨env4, e4, e⟩ := ob_eq e
        cases e
        obtain rfl := pd_eq ek
        have n23 := n2.trans at1.ow n3
        refine ⟨O3, φ3, S3, _, dk, _, _, at3.sim, w2.mono at2.sim n3, wk_d w3, hdx.mono at1.sim n23, es, fun H' nx sm => ?_⟩
        obtain ⟨h1, rfl⟩ := asg1_eq e4
        have hdy' := (hdy.mono at1.sim n23).mono at3.sim nx
        exact ⟨_, _, rfl, rfl, h _ O3 φ3 H' (by rw [List.length_set]) ((n1.trans at_.ow n23).trans at_.ow nx) sm ((at3.env.mono at3.sim nx).set (w := .d _) h1 hdy')⟩
      · cases e
    · cases e
/-- self.f = e, the instance's first -/
theorem ps_setFW {f : Str} {p2 : Pos} (hK : C.K = X.K) (ok : DCok C) (hna : ∀ c A, C.cls c = some A → NoAttr X.K A f) (ha : PE X a (tE C L m2)) (hb : PE X b (tE C L m1)) (hlc : notLc b = true) : PS X (.Assign [.Attribute a f p2] b pos) (tS C L fun e S => bd (m1 e S) fun x S => bd (m2 e S) fun r S => match r with
    | .ref n => match S[n]?, pd x with
      | some (.ins c []), some x => some ((.nx, e), S.set n (.ins c [(f, x)]))
      | _, _ => none
    | _ => none) :=
  (ps_fld ha hb (sw_none hlc)).imp fun D σ H ⟨O, φ, S, env, fl, env', S', at_, e, h⟩ => by
    refine tE.seq at_ e fun v x O1 φ1 H1 S1 n1 at1 w1 e => ?_
    refine tE.seq at1 e fun v2 r O2 φ2 H2 S2 n2 at2 w2 e => ?_
    split at e
    · rename_i n
      split at e
      · rename_i c dx es ex
        cases e
        obtain rfl := pd_eq ex
        obtain ⟨q, eq, rfl⟩ := w2
        obtain ⟨hO, A, ddx, fvs, hA, eh, ek, t⟩ := at2.sim.at_ n _ q es eq
        have e0 : fvs = [] := by
          cases fvs with
          | nil => rfl
          | cons _ _ => cases ek
        subst e0
        have dv := (wk_d w1).mono at1.sim n2
        obtain ⟨nx, smk⟩ := at2.sim.write (mo := .ins c [(f, dx)]) (o := .ins A ddx [(f, v)]) eq hO (fun _ z => nomatch z) fun _ z => nomatch z
        refine ⟨q, A, ddx, [], rfl, eh, hK ▸ (ok.cl c A hA).1, hna c A hA, by show 0 < 1000; decide, ?_⟩
        have sm := smk ⟨hO, A, ddx, _, hA, upd_same, rfl, .cons (dv.mono at2.sim nx) .nil⟩
        exact h σ O2 φ2 _ rfl ((n1.trans at_.ow n2).trans at_.ow nx) sm (at2.env.mono at2.sim nx)
      · cases e
    · cases e
/-! ### the parts of an instance -/
/-- which part -/
def attX (f : Str) (p t : D) : Option D := if f = "places" then some p else if f = "ties" then some t else if f = "parts" then some (.tuple [p, t]) else none
def spAtt (C : DC) (A : Addr) (f : Str) : Sp := fun vs H Q _ => ∃ a dx v p t z O, vs = [.ref a] ∧ H a = some (.ins A dx [("all_told", v)]) ∧ Dn C O H v (.tuple [p, t]) ∧ attX f p t = some z ∧ ∀ vz, Dn C O H vz z → Q vz H
/-- a getter that is there -/
structure GetOk (P : Program) (w : World) (K : PySem.W.Frag) (mg : Str → Option Value) (base : Heap) (C : DC) (A : Addr) (f : Str) : Prop where
  ex : ∃ (p g : Addr) (fd : FuncData), PropOf K A f p g ∧ FnOk P w K mg base C8.CX0 2 g fd ["self"] (spAtt C A f) ∧ Binds K fd ["self"] []
theorem attD_eq {x z : D} {f : Str} (h : attD x f = some z) : ∃ p t, x = .dict [(.list [], .str "Web"), (.str "all_told", .tuple [p, t])] ∧ attX f p t = some z := by
  unfold attD at h
  split at h
  · split at h
    · rename_i c a p t hc
      rw [Bool.and_eq_true, decide_eq_true_eq, decide_eq_true_eq] at hc
      obtain ⟨rfl, rfl⟩ := hc
      exact ⟨p, t, rfl, h⟩
    · cases h
  · cases h
theorem pe_attW {A : Addr} {f : Str} (hK : C.K = X.K) (ok : DCok C) (hA : C.cls "Web" = some A) (G : GetOk X.prog X.w X.K X.mg X.base C A f) (hr : Room 3 X.A) (ha : PE X a (tE C L m)) (hab : attOk a = true) : PE X (.Attribute a f pos) (tE C L fun e S => bd (m e S) fun x S => ob (pd x) fun x => (attD x f).map fun z => (.d z, S)) := by
  obtain ⟨p, g, fd, hp, F, hb⟩ := G.ex
  refine (pe_prop (E := C8.E0) ha (hK ▸ (ok.cl _ A hA).1) hp F hr hb .nil C8.pass0 (att_of hab)).imp fun σ H Q ⟨O, φ, S, env, w, S', at_, e, h⟩ => ?_
  refine tE.seq at_ e fun v x O1 φ1 H1 S1 n1 at1 w1 e => ?_
  obtain ⟨dx, ex, e⟩ := ob_eq e
  obtain ⟨z, ez, e⟩ := Option.map_eq_some_iff.mp e
  cases e
  obtain rfl := pd_eq ex
  obtain ⟨pp, tt, rfl, ea⟩ := attD_eq ez
  have d := wk_d w1
  cases d with
  | @dicK a kvs _ no q e t =>
    exfalso
    cases kvs with
    | nil => cases e
    | cons p' r' =>
      simp only [List.map_cons, List.cons.injEq] at e
      have e1 := e.1
      cases h1 : p'.1 <;> rw [h1] at e1 <;> cases e1
  | @dicT a kvs _ no q e t =>
    exfalso
    cases kvs with
    | nil => cases e
    | cons p' r' =>
      simp only [List.map_cons, List.cons.injEq] at e
      cases e.1
  | ins no hc q t =>
    rw [hA] at hc
    cases hc
    exact ⟨_, _, _, rfl, q, _, _, _, pp, tt, z, O1, rfl, q, t, ea, fun vz d => h vz O1 φ1 H1 n1 at1.sim d⟩
end
/-! the getters -/
section
variable {P : Program} {w : World} {K : PySem.W.Frag} {mg : Str → Option Value} {base : Heap} {A fa : Addr} {name qual f : Str} {params : Arguments} {body : List Stmt} {scope : Scope} {dV kV doc pm cdv ct oc : Value} {an od : Option Addr} {osl : Array (Option Value)} {N : List Str} {p1 p2 p3 p4 p5 : Pos} {kk : Nat}
theorem get_ix (hK : C.K = K) (ok : DCok C) (hA : C.cls "Web" = some A) (hna : NoAttr K A "all_told") (lk : K.lookup fa = some ⟨oc, od, .func (PySem.W.fnOf name qual params body scope dV kV doc pm an cdv ct), osl⟩) (hcd : PySem.W.codeIn K cdv qual = true) (S : FnScope N ["self"] scope)
    (hN : N[0]? = some ("self" : Str)) (i : Nat) (hi : i = 0 ∧ f = "places" ∨ i = 1 ∧ f = "ties") (hb : body = [.Return (some (.Subscript (.Attribute (.Name "self" p1) "all_told" p2) (.Constant (.int (i : Nat)) kk p3) p4)) p5]) :
    FnOk P w K mg base C8.CX0 2 fa (PySem.W.fnOf name qual params body scope dV kV doc pm an cdv ct) ["self"] (spAtt C A f) := by
  refine fn_of (k := 1) lk hcd S (fun vs H Q E h => ?_) (fun AA outer s H vs Q E hr h => ?_)
  · obtain ⟨a, dx, v, p, t, z, O, e, _⟩ := h
    rw [e]; rfl
  · obtain ⟨a, dx, v, p, t, z, O, e, ea, d, ez, q⟩ := h
    subst e
    subst hb
    refine ⟨_, pss_one (ps_ret (pe_ix ix_tup (pe_fld (pe_var (i := 0) hN ((S.par "self" (List.Mem.head _)).elim (fun z => .inl z) (fun z => .inr (.inl z)))) rfl) pe_int (fun _ _ => rfl))), ?_⟩
    obtain ⟨b, vs, rfl, hq, tt⟩ := d.tupleK
    cases tt with
    | cons hp tt =>
    cases tt with
    | cons ht tt =>
    cases tt
    refine ⟨.ref a, rfl, a, A, dx, _, _, rfl, ea, hK ▸ (ok.cl _ A hA).1, hna, rfl, ?_⟩
    rcases hi with ⟨rfl, rfl⟩ | ⟨rfl, rfl⟩
    · cases ez
      exact ⟨b, _, _, _, rfl, rfl, hK ▸ hq, atI_nat (j := 0) rfl, q _ hp⟩
    · cases ez
      exact ⟨b, _, _, _, rfl, rfl, hK ▸ hq, atI_nat (j := 1) rfl, q _ ht⟩
theorem get_all (hK : C.K = K) (ok : DCok C) (hA : C.cls "Web" = some A) (hna : NoAttr K A "all_told") (lk : K.lookup fa = some ⟨oc, od, .func (PySem.W.fnOf name qual params body scope dV kV doc pm an cdv ct), osl⟩) (hcd : PySem.W.codeIn K cdv qual = true) (S : FnScope N ["self"] scope)
    (hN : N[0]? = some ("self" : Str)) (hb : body = [.Return (some (.Attribute (.Name "self" p1) "all_told" p2)) p3]) :
    FnOk P w K mg base C8.CX0 2 fa (PySem.W.fnOf name qual params body scope dV kV doc pm an cdv ct) ["self"] (spAtt C A "parts") :=
  (fn_getter (k := 1) lk hcd S hN hb (hK ▸ (ok.cl _ A hA).1) hna).imp fun vs H Q E ⟨a, dx, v, p, t, z, O, e, ea, d, ez, q⟩ => by
    cases ez
    exact ⟨a, dx, _, v, e, ea, rfl, q v d⟩
end
end RW
set_option Elab.async false
set_option linter.all false
set_option maxRecDepth 100000
set_option maxHeartbeats 2000000
namespace RW
open PySem PySem.W PyProof.Rows L2
variable {X : Cx} {C : DC} {L : Clo}
/-- a def that may be called by its promise -/
structure FnX (X : Cx) (C : DC) (a : Addr) (mf : List W → Sto → Option (W × Sto)) : Prop where
  ex : ∃ (lv : Nat) (fd : FuncData) (ps : List Str), FnOk X.prog X.w X.K X.mg X.base C8.CX0 lv a fd ps (spC C noL mf) ∧ Room lv X.A ∧ PySem.W.keepIn X.K (.ref a) = true ∧ Binds X.K fd ps []
/-- a lambda that may be called here -/
structure LamOk (X : Cx) (C : DC) (a : Addr) (mf : List W → Sto → Option (W × Sto)) : Prop where
  fn : ∀ (pins : List (Addr × Obj)) (σ : L2.St) (H : Hp) (s : Shared), Inv X pins σ H s → PySem.W.FnAt a s.heap
  run : ∀ (pins : List (Addr × Obj)) (σ : L2.St) (H : Hp) (s : Shared) (vs : List V) (us : List Value) (Q : VK), Inv X pins σ H s → Vals vs us → spC C noL mf vs H Q C8.E0 → wpAny (model X.prog X.w) X.A (call (.ref a) us) (EP X pins σ Q) X.xe s
theorem pe_callVW {call : Call} {ms : Env1 → Sto → Option (List W × Sto)} {x : Str} {i : Nat} {p pos : Pos} {e0 : Expr} {es : List Expr} (hfn : ∀ n a, C.fns n = some a → FnX X C a fun ws S => call n.toNat ws S) (hlam : ∀ a k cs, L a k cs → LamOk X C a fun ws S => call k (cs.map .d ++ ws) S)
    (hN : X.N[i]? = some x) (hv : Vis X.env.scope x) (hd : (x == ("__debug__" : Str)) = false) (hcd : (x == ("__classdict__" : Str)) = false) (ha : PA X (e0 :: es) (tA C L ms)) (hst : (e0 :: es).all notStar = true) :
    PE X (.Call (.Name x p) (e0 :: es) [] pos) (tE C L fun e S => ob (slot e i) fun w => bd (ms e S) fun ws S => if noClo ws then callV call w ws S else none) := by
  rw [List.all_cons, Bool.and_eq_true] at hst
  refine ⟨fun pins s σ H Q I ⟨O, φ, S, env, w, S', at_, e, h⟩ => ?_⟩
  obtain ⟨wf, ef, e⟩ := ob_eq e
  obtain ⟨v, ev, wo⟩ := at_.env.at_ i wf ef
  refine wpAny_Call_Name_kw (thn ((pe_var (pos := p) (i := i) hN hv hd hcd).run pins s σ H (fun v' H1 => v' = v ∧ H1 = H) I ⟨v, ev, rfl, rfl⟩) fun u s1 ⟨v', H1, I1, r1, q1, q2⟩ => ?_)
  subst q1 q2
  have q : ∀ {mf : List W → Sto → Option (W × Sto)}, (∀ ws S, callV call wf ws S = mf ws S) → tA C L ms σ H1 fun vs H2 => spC C noL mf vs H2 Q C8.E0 := fun {mf} hc => by
    refine tA.seq at_ e fun vs ws O1 φ1 H1 S1 n1 at1 w1 e => ?_
    split at e
    · rename_i hn
      exact ⟨O1, φ1, S1, ws, w, S', at1.sim, w1.noL hn, by rw [← hc]; exact e, fun v O' φ' H' n sm wo => h v O' φ' H' (n1.trans at_.ow n) sm wo.ofNo⟩
    · cases e
  cases wf with
  | d x =>
    by_cases hx : ∃ n : Int, x = .dict [(.list [.none], .int n)]
    · obtain ⟨n, rfl⟩ := hx
      have d := wk_d wo
      have hfn' : ∃ a, v' = .ref a ∧ C.fns n = some a := by
        cases d with
        | @dicK a kvs _ no q e t =>
          exfalso
          cases kvs with
          | nil => cases e
          | cons p' r' =>
            simp only [List.map_cons, List.cons.injEq] at e
            have e1 := e.1
            cases h1 : p'.1 <;> rw [h1] at e1 <;> cases e1
        | @dicT a kvs _ no q e t =>
          exfalso
          cases kvs with
          | nil => cases e
          | cons p' r' =>
            simp only [List.map_cons, List.cons.injEq] at e
            cases e.1
        | fn hf => exact ⟨_, rfl, hf⟩
      obtain ⟨a, rfl, hf⟩ := hfn'
      cases r1
      obtain ⟨lv, fd, ps, F, hr, hk, hb⟩ := (hfn n a hf).ex
      refine PySem.W.callWith_K (h₀ := X.base) I1.ok.mod.kin hk (thn (ha.run pos pins s1 σ H1 _ I1 (q (mf := fun ws S => call n.toNat ws S) fun _ _ => rfl)) fun us s2 ⟨vs, H2, I2, r, q2⟩ => ⟨I2.kIn, ?_⟩) (star_of hst.1) (back_any hst.2)
      exact run_fn (E := C8.E0) F hr hb .nil C8.pass0 I2 r (by rw [List.append_nil]; exact q2)
    · exfalso
      obtain ⟨ws, S1, e1, e2⟩ := bd_eq e
      have : callV call (.d x) ws S1 = none := by
        unfold callV
        split
        · rename_i n heq
          cases heq
          exact absurd ⟨_, rfl⟩ hx
        · rename_i heq; cases heq
        · rfl
      rw [this] at e2
      split at e2 <;> cases e2
  | clo k cs =>
    obtain ⟨a, rfl, hL⟩ := wo
    cases r1
    have lk := hlam a k cs hL
    refine PySem.W.callWith_F (first := []) (lk.fn pins σ H1 s1 I1) (thn (ha.run pos pins s1 σ H1 _ I1 (q (mf := fun ws S => call k (cs.map .d ++ ws) S) fun _ _ => rfl)) fun us s2 ⟨vs, H2, I2, r, q2⟩ => ⟨lk.fn pins σ H2 s2 I2, ?_⟩) (star_of hst.1) (back_any hst.2)
    exact lk.run pins σ H2 s2 vs us Q I2 r q2
  | ref j =>
    exfalso
    obtain ⟨ws, S1, e1, e2⟩ := bd_eq e
    split at e2 <;> cases e2
  | refs l =>
    exfalso
    obtain ⟨ws, S1, e1, e2⟩ := bd_eq e
    split at e2 <;> cases e2
  | scr l =>
    exfalso
    obtain ⟨ws, S1, e1, e2⟩ := bd_eq e
    split at e2 <;> cases e2
  | drefs l =>
    exfalso
    obtain ⟨ws, S1, e1, e2⟩ := bd_eq e
    split at e2 <;> cases e2
/-! a chain of two comparisons -/
def chnE (o o2 : CmpOp) (m1 m2 m3 : Env1 → Sto → Option (W × Sto)) : Env1 → Sto → Option (W × Sto) := fun e S => bd (m1 e S) fun x S => bd (m2 e S) fun y S => ob (rd S x) fun x => ob (pd y) fun y' => ob (cmpD o x y') fun z => match z with
    | true => bd (m3 e S) fun w S => ob (rd S w) fun w => (cmpD o2 y' w).map fun z => (.d (.bool z), S)
    | false => some (.d (.bool false), S)
theorem last_of {o o2 : CmpOp} {b c : Expr} (h2 : notSet c = true) : lastMarks [o, o2] [b, c] = false := by
  show behindInMarks o2 c = false
  exact in_of h2
theorem chn_read {o o2 : CmpOp} {m1 m2 m3 : Env1 → Sto → Option (W × Sto)} {σ : L2.St} {H : Hp} {Q : VK} (h : tE C L (chnE o o2 m1 m2 m3) σ H Q) :
    tChain (rB C fun x y => (cmpD o x y).map .bool) (rB C fun x y => (cmpD o2 x y).map .bool) (tE C L m1) (tE C L m2) (tE C L m3) σ H Q := by
  obtain ⟨O, φ, S, env, w, S', at_, e, h⟩ := h
  refine tE.seq at_ e fun v1 x O1 φ1 H1 S1 n1 at1 w1 e => ?_
  refine tE.seq at1 e fun v2 y O2 φ2 H2 S2 n2 at2 w2 e => ?_
  obtain ⟨dx, ex, e⟩ := ob_eq e
  obtain ⟨dy, ey, e⟩ := ob_eq e
  obtain ⟨z, ez, e⟩ := ob_eq e
  obtain rfl := pd_eq ey
  refine ⟨O2, dx, dy, .bool z, at2.ow, (w1.mono at1.sim n2).rd at2.sim ex, .d (wk_d w2), by show (cmpD o dx dy).map PyData.bool = _; rw [ez]; rfl, fun vz H3 g d => ?_⟩
  cases d
  have at3 := at2.gr g
  have n3 := ((n1.trans at_.ow n2).trans at_.ow (g.nxt (O := O2) (φ := φ2)))
  refine ⟨z, rfl, ?_⟩
  cases z with
  | false =>
    rw [if_neg Bool.false_ne_true]
    cases e
    exact h _ O2 φ2 H3 n3 at3.sim (.bl _)
  | true =>
    rw [if_pos rfl]
    refine tE.seq at3 e fun v3 w' O4 φ4 H4 S4 n4 at4 w4 e => ?_
    obtain ⟨dw, ew, e⟩ := ob_eq e
    obtain ⟨z2, ez2, e⟩ := Option.map_eq_some_iff.mp e
    cases e
    refine ⟨O4, dy, dw, .bool z2, at4.ow, .d (((wk_d w2).gr g).mono at3.sim n4), w4.rd at4.sim ew, by show (cmpD o2 dy dw).map PyData.bool = _; rw [ez2]; rfl, fun vz H5 g5 d => ?_⟩
    cases d
    exact h _ O4 φ4 H5 ((n3.trans at_.ow n4).trans at_.ow g5.nxt) (at4.sim.gr g5) (.bl _)
theorem pe_chnW {o o2 : CmpOp} {m1 m2 m3 : Env1 → Sto → Option (W × Sto)} {a b c : Expr} {pos : Pos} (hK : C.K = X.K) (hu : X.A.units + 64 < cLine) (ha : PE X a (tE C L m1)) (hb : PE X b (tE C L m2)) (hc : PE X c (tE C L m3)) (h2 : notSet c = true) :
    PE X (.Compare a [o, o2] [b, c] pos) (tE C L (chnE o o2 m1 m2 m3)) :=
  (pe_chain (op_cmpD hK hu o) (op_cmpD hK hu o2) ha hb hc (last_of h2)).imp fun σ H Q h => chn_read h
theorem tb_read {m : Env1 → Sto → Option (W × Sto)} {σ : L2.St} {H : Hp} {Q : Bool → Hp → Prop} (h : tT C L (fun e S => tb (m e S)) σ H Q) : tE C L m σ H fun x H' => ∃ k, x = .bl k ∧ Q k H' := by
  obtain ⟨O, φ, S, env, b, S', at_, e, h⟩ := h
  refine ⟨O, φ, S, env, _, S', at_, tb_some e, fun v O' φ' H' n sm wo => ?_⟩
  have := wk_d wo
  cases this
  exact ⟨b, rfl, h O' φ' H' n sm⟩
theorem pt_chnW {o o2 : CmpOp} {m1 m2 m3 : Env1 → Sto → Option (W × Sto)} {a b c : Expr} {pos : Pos} (hK : C.K = X.K) (hu : X.A.units + 64 < cLine) (ha : PE X a (tE C L m1)) (hb : PE X b (tE C L m2)) (hc : PE X c (tE C L m3)) (h2 : notSet c = true) :
    PT X (.Compare a [o, o2] [b, c] pos) (tT C L fun e S => tb (chnE o o2 m1 m2 m3 e S)) :=
  (pt_chain (op_cmpD hK hu o) (op_cmpD hK hu o2) ha hb hc (last_of h2)).imp fun σ H Q h => chn_read (tb_read h)
end RW
set_option Elab.async false
set_option linter.all false
set_option maxRecDepth 100000
set_option maxHeartbeats 4000000
namespace RW
open PySem PySem.W PyProof.Rows L2
variable {X : Cx} {C : DC} {L : Clo}
/-! ### a dict of one written pair -/
section
variable {O O' O0 : Ow} {φ φ' φ0 : List Addr} {H H' H0 : Hp} {S S' : Sto} {p : Addr} {o o' : HO} {mo : MO}
/-- a new object, owned by no slot -/
theorem Sim.hide (sm : Sim C O φ H S) (hp : H p = none) (nt : ∀ vs, o ≠ .tup vs) (nb : ∀ ps, o ≠ .tbl ps) (nf : ∀ f, o ≠ .ext f) : Nxt O φ H (O.add p) φ (upd H p o) ∧ Sim C (O.add p) φ (upd H p o) S ∧ p ∉ φ := by
  have ne : ∀ b u, H b = some u → b ≠ p := fun b u e => ne_of_none e hp
  have nφ : p ∉ φ := fun z => by obtain ⟨u, e⟩ := sm.tr p z; rw [hp] at e; cases e
  have nx : Nxt O φ H (O.add p) φ (upd H p o) := ⟨fun b u e _ _ => by rw [upd_ne (ne b u e)]; exact e, fun b h => h.imp id fun z => by rw [z]; exact hp, fun b h _ => .inl h, fun b u e => ⟨u, by rw [upd_ne (ne b u e)]; exact e⟩, List.prefix_refl _, fun b h => .inl h, fun b ps e => ⟨#[], by rw [upd_ne (ne b _ e), e]; simp⟩⟩
  refine ⟨nx, ⟨sm.len, sm.nd, fun i mo a e1 e2 => (sm.at_ i mo a e1 e2).step (fun u e => by rw [upd_ne (ne a u e)]; exact e) (fun vs xs h => h.mono sm nx) .inl, fun a h => ?_, fun a h => ?_, sm.tb.ext fun b u e => by rw [upd_ne (ne b u e)]; exact e⟩, nφ⟩
  · rcases h with h | h
    · obtain ⟨u, e, q⟩ := sm.ow a h
      exact ⟨u, by rw [upd_ne (ne a u e)]; exact e, q⟩
    · subst h; exact ⟨_, upd_same, nt, nb, nf⟩
  · obtain ⟨u, e⟩ := sm.tr a h
    exact ⟨u, by rw [upd_ne (ne a u e)]; exact e⟩
/-- .. it gets its slot -/
theorem Sim.adopt (sm0 : Sim C O0 φ0 H0 S) (h0 : H0 p = none) (n : Nxt (O0.add p) φ0 (upd H0 p o) O φ H) (sm : Sim C O φ H S') (nt : ∀ vs, o' ≠ .tup vs) (nb : ∀ ps, o' ≠ .tbl ps) (nf : ∀ f, o' ≠ .ext f) (hm : MoOk C O (upd H p o') p mo) :
    Nxt O0 φ0 H0 O (φ ++ [p]) (upd H p o') ∧ Sim C O (φ ++ [p]) (upd H p o') (S' ++ [mo]) ∧ (φ ++ [p])[S'.length]? = some p := by
  have n0 : p ∉ φ0 := fun z => by obtain ⟨u, e⟩ := sm0.tr p z; rw [h0] at e; cases e
  have hO : O p := n.back p (.inr rfl) n0
  obtain ⟨ob, eo, n1, n2, n3⟩ := sm.ow p hO
  have nφ : p ∉ φ := fun z => by
    rcases n.frs p z with q | q
    · exact n0 q
    · rw [upd_same] at q; cases q
  have nep : ∀ b u, H0 b = some u → b ≠ p := fun b u e => ne_of_none e h0
  have dn : ∀ {v : V} {x : RW.D}, Dn C O H v x → Dn C O (upd H p o') v x := fun {v x} h => Dn.mono' (fun b u e1 e2 _ => by rw [upd_ne (fun z => by subst z; exact e2 hO)]; exact e1) (fun _ _ _ z => z) (fun b vs e1 => by
    rw [upd_ne (fun z => by subst z; rw [eo] at e1; cases e1; exact n1 vs rfl)]; exact e1) h
  have dnA : ∀ {vs : List V} {xs : List RW.D}, DnA C O H vs xs → DnA C O (upd H p o') vs xs := fun {vs xs} h => DnA.mono' (fun b u e1 e2 _ => by rw [upd_ne (fun z => by subst z; exact e2 hO)]; exact e1) (fun _ _ _ z => z) (fun b vs e1 => by
    rw [upd_ne (fun z => by subst z; rw [eo] at e1; cases e1; exact n1 vs rfl)]; exact e1) h
  have hl : (φ ++ [p])[S'.length]? = some p := by rw [← sm.len]; simp
  refine ⟨⟨fun b u e q t => ?_, fun b h => ?_, fun b h q => ?_, fun b u e => ?_, ?_, fun b h => ?_, fun b ps e => ?_⟩, ⟨by simp [sm.len], ?_, fun i mo' b e1 e2 => ?_, fun b h => ?_, fun b h => ?_, ?_⟩, hl⟩
  · rw [upd_ne (nep b u e)]
    exact n.keep b u (by rw [upd_ne (nep b u e)]; exact e) (q.imp id fun q z => z.elim q fun z => nep b u e z) t
  · rcases n.own b h with (q | q) | q
    · exact .inl q
    · subst q; exact .inr h0
    · by_cases hb : b = p
      · subst hb; exact .inr h0
      · rw [upd_ne hb] at q; exact .inr q
  · exact n.back b (.inl h) q
  · obtain ⟨u', e'⟩ := n.gone b u (by rw [upd_ne (nep b u e)]; exact e)
    exact ⟨u', by rw [upd_ne (nep b u e)]; exact e'⟩
  · exact n.pre.trans (List.prefix_append _ _)
  · rcases List.mem_append.mp h with h | h
    · rcases n.frs b h with q | q
      · exact .inl q
      · by_cases hb : b = p
        · subst hb; exact .inr h0
        · rw [upd_ne hb] at q; exact .inr q
    · rw [List.mem_singleton] at h
      subst h; exact .inr h0
  · obtain ⟨more, e'⟩ := n.tbl b ps (by rw [upd_ne (nep b _ e)]; exact e)
    exact ⟨more, by rw [upd_ne (nep b _ e)]; exact e'⟩
  · rw [List.nodup_append]
    refine ⟨sm.nd, by simp, fun x hx y hy => ?_⟩
    rw [List.mem_singleton] at hy
    subst hy
    exact fun z => nφ (z ▸ hx)
  · by_cases hi : i < S'.length
    · rw [List.getElem?_append_left hi] at e1
      rw [List.getElem?_append_left (by rw [sm.len]; exact hi)] at e2
      have hb : b ≠ p := fun z => by subst z; exact nφ (List.mem_of_getElem? e2)
      exact (sm.at_ i mo' b e1 e2).step (fun u e => by rw [upd_ne hb]; exact e) (fun vs xs h => dnA h) id
    · have h2 := (List.getElem?_eq_some_iff.mp e1).1
      rw [List.length_append] at h2
      simp only [List.length_cons, List.length_nil] at h2
      have hi' : i = S'.length := by omega
      subst hi'
      rw [hl] at e2
      cases e2
      have e1' : (S' ++ [mo])[S'.length]? = some mo := by simp
      rw [e1'] at e1
      cases e1
      exact hm
  · by_cases hb : b = p
    · subst hb; exact ⟨o', upd_same, nt, nb, nf⟩
    · obtain ⟨u, e, q⟩ := sm.ow b h
      exact ⟨u, by rw [upd_ne hb]; exact e, q⟩
  · rcases List.mem_append.mp h with h | h
    · obtain ⟨u, e⟩ := sm.tr b h
      by_cases hb : b = p
      · subst hb; exact ⟨o', upd_same⟩
      · exact ⟨u, by rw [upd_ne hb]; exact e⟩
    · rw [List.mem_singleton] at h
      subst h; exact ⟨o', upd_same⟩
  · exact tabs_keep sm.tb (fun b ps e => by rw [upd_ne (fun z => by subst z; rw [eo] at e; cases e; exact n2 ps rfl)]; exact e) (fun b f e => by rw [upd_ne (fun z => by subst z; rw [eo] at e; cases e; exact n3 f rfl)]; exact e)
end
theorem pe_dic1W {m1 m2 : Env1 → Sto → Option (W × Sto)} {a b : Expr} {pos : Pos} (ha : PE X a (tE C L m1)) (hb : PE X b (tE C L m2)) :
    PE X (.Dict [some a] [b] pos) (tE C L fun e S => bd (m1 e S) fun x S => bd (m2 e S) fun y S => ob (pd x) fun x => ob (pd y) fun y => if keyA x then freshI S (.dct false [(x, y)]) else none) :=
  (pe_disp (pps_cons ha hb pps_nil) rfl rfl (by simp) (by simp)).imp fun σ H Q ⟨O, φ, S, env, w, S', at_, e, h⟩ => by
    intro p hp
    obtain ⟨nx, sm, hnφ⟩ := at_.sim.hide (o := .dK []) hp (fun _ z => nomatch z) (fun _ z => nomatch z) (fun _ z => nomatch z)
    have at0 := at_.next nx sm
    show tE C L m1 σ _ _
    refine tE.seq at0 e fun vx wx O1 φ1 H1 S1 n1 at1 wx1 e => ?_
    show tE C L m2 σ _ _
    refine tE.seq at1 e fun vy wy O2 φ2 H2 S2 n2 at2 wy1 e => ?_
    obtain ⟨x, ex, e⟩ := ob_eq e
    obtain ⟨y, ey, e⟩ := ob_eq e
    rw [pd_eq ex] at wx1
    rw [pd_eq ey] at wy1
    split at e
    · rename_i hk
      obtain ⟨k, rfl⟩ := keyA_of hk
      cases e
      have nn := n1.trans at0.ow n2
      have hp2 : H2 p = some (.dK []) := nn.keep p _ upd_same (.inl hnφ) (fun _ z => nomatch z)
      have hO : O2 p := nn.back p (.inr rfl) hnφ
      have ev : vx = L2.kV k := Dn.kV (wk_d wx1)
      refine ⟨hp2, [(k, vy)], by rw [ev]; rfl, by simp, ?_⟩
      have dy : Dn C O2 (upd H2 p (.dK [(k, vy)])) vy y := Dn.mono' (fun b u e1 e2 _ => by rw [upd_ne (fun z => by subst z; exact e2 hO)]; exact e1) (fun _ _ _ z => z) (fun b vs e1 => by
        rw [upd_ne (fun z => by subst z; rw [hp2] at e1; cases e1)]; exact e1) (wk_d wy1)
      obtain ⟨nx3, sm3, hl⟩ := Sim.adopt (o' := .dK [(k, vy)]) (mo := .dct false [(kD k, y)]) at_.sim hp nn at2.sim (fun _ z => nomatch z) (fun _ z => nomatch z) (fun _ z => nomatch z) ⟨hO, [(k, vy)], upd_same, rfl, .cons dy .nil⟩
      exact h _ _ _ _ nx3 sm3 ⟨p, hl, rfl⟩
    · cases e
end RW
set_option Elab.async false
set_option linter.all false
set_option maxRecDepth 100000
set_option maxHeartbeats 4000000
/-! enumerate of a tuple -/
namespace PySem
open Sem (wp)
open AutoSeq1 (wpAny_loadPart')
theorem rw_meets_enumerate {l : Addr} {o : Obj} {ob : Obj} {H : Heap → Prop} (B : Begins (.ref l) o H) :
    Meets (Builtin.«enumerate.__new__» ⟨[.type "enumerate", .ref l], []⟩) (fun _ R s => (H s.heap ∧ s.heap.get? l = some ob) ∧
      R (.ok (.ret (.ref (s.heap.push o).objs.size))) { s with heap := (s.heap.push o).push { cls := .type "enumerate", data := .fields #[.none, .bool false, .ref s.heap.objs.size, rawInt 0, .none, .none] } }) :=
  .of_wp fun prog w A R s h => by
    obtain ⟨hp, g, d, tk, os⟩ := s; obtain ⟨⟨h1, hl⟩, h⟩ := h
    have hsub := sub_enumerate
    have q1 : ∀ {A' : Around} {E : Value → Shared → Prop} {Q : Value → Shared → Prop}, Q (.ref hp.objs.size) ⟨hp.push o, g, d, tk, os⟩ → wpAny (model prog w) A' (pyIter (.ref l)) Q E ⟨hp, g, d, tk, os⟩ :=
      fun q => B.iter prog w _ _ ⟨hp, g, d, tk, os⟩ _ h1 q
    wp_walk using wpAny_loadPart' hl, q1
    refine wpAny_stack_any fun st => wpAny_pure ?_
    split
    · rename_i c _ _ _ _ _
      cases (c == Value.type "enumerate")
      · wp_walk using wpAny_loadPart' hl, q1
        exact ⟨_, rfl, h⟩
      · wp_walk using wpAny_loadPart' hl, q1
        exact ⟨_, rfl, h⟩
    · wp_walk using wpAny_loadPart' hl, q1
      exact ⟨_, rfl, h⟩
end PySem
set_option Elab.async false
set_option linter.all false
set_option maxRecDepth 100000
set_option maxHeartbeats 4000000
namespace PySem
theorem rw_call_enumerate {prog : Program} {w : World} {A : Around} {E : Value → Shared → Prop} {s : Shared} {l : Addr} {items : Array Value} {Q : Value → Shared → Prop} (hL : s.heap.IsTuple l items)
    (h : ∀ h', IsEnum h' (s.heap.objs.size + 1) s.heap.objs.size 0 .none → h'.IsTupleIter s.heap.objs.size l 0 → h'.objs.size = s.heap.objs.size + 2 →
      (∀ b o, s.heap.get? b = some o → h'.get? b = some o) → Q (.ref (s.heap.objs.size + 1)) { s with heap := h' }) :
    wpAny (model prog w) A (call (.type "enumerate") [.ref l]) Q E s := by
  obtain ⟨ob, hl, _⟩ := id hL
  refine callType_new F.called_enumerate (by decide) (F.typeCall_enumerate_1 _) (F.newCall_enumerate_1 _) (fun obj => F.args_object_init_2 obj _) F.entry_enumerate_new
    (rw_meets_enumerate (begins_tuple l items)) ⟨⟨hL, hl⟩, ?_⟩
  have hz : (s.heap.push { cls := .type "tuple_iterator", data := .fields #[.ref l, .int 0 0] }).objs.size = s.heap.objs.size + 1 := Heap.size_push ..
  show _ ∧ _
  rw [hz]
  have he : IsEnum ((s.heap.push { cls := .type "tuple_iterator", data := .fields #[.ref l, .int 0 0] }).push
      { cls := .type "enumerate", data := .fields #[.none, .bool false, .ref s.heap.objs.size, rawInt 0, .none, .none] }) (s.heap.objs.size + 1) s.heap.objs.size 0 .none := by
    have := Heap.get?_push_size (s.heap.push { cls := .type "tuple_iterator", data := .fields #[.ref l, .int 0 0] })
      (o := { cls := .type "enumerate", data := .fields #[.none, .bool false, .ref s.heap.objs.size, rawInt 0, .none, .none] }) rfl
    rw [hz] at this; exact this
  refine ⟨⟨_, he, rfl⟩, h _ he ⟨_, Heap.get?_push_of_some _ (Heap.get?_push_size _ rfl), rfl, rfl⟩ (by rw [Heap.size_push, hz]) fun b o x => Heap.get?_push_of_some _ (Heap.get?_push_of_some _ x)⟩
theorem rw_enum_end {prog : Program} {w : World} {A : Around} {E : Value → Shared → Prop} {s : Shared} {e it t : Addr} {items : Array Value} {n : Nat} {i : Int} {old : Value} {Q : Option Value → Shared → Prop}
    (hh : A.handled = none) (he : IsEnum s.heap e it i old) (hit : s.heap.IsTupleIter it t n) (ht : s.heap.IsTuple t items) (hx : items[n]? = none)
    (hQ : ∀ h', Heap.ExtBut it s.heap h' → Q none { s with heap := h' }) : wpAny (model prog w) A (pyNext (.ref e)) Q E s := by
  have hT : s.TypeIs (.ref e) "enumerate" := ⟨_, he, rfl⟩
  unfold pyNext
  refine wpAny_bind (wpAny_attempt (wpAny_callSpecial?_slot (name := Str.ofString "__next__") hT F.slot_enumerate_next
    (wpAny_call_entry F.slot_enumerate_next hT F.entry_enumerate_next ?_ (F.args_enumerate_next_1 _))))
  show wpAny _ _ (field (.ref e) 2 >>= _) _ _ _
  refine wpAny_bind (wpAny_field he rfl (x := .ref it) rfl ?_)
  refine wpAny_bind (wpAny_nextOf_tuple_end hh hit ht hx fun h' x he' hx' => ?_)
  obtain ⟨o, ho, hc⟩ := hx'
  refine wpAny_bind (wpAny_isInstance (T := "StopIteration") (b := true) ⟨o, ho, hc⟩ isSubtype_stop ?_)
  exact wpAny_pure (hQ _ he')
end PySem
namespace RW
open PySem PySem.W PyProof.Rows L2
theorem turn_enumT {P : Program} {w : World} {K : PySem.W.Frag} {elts : List Expr} {kk : Nat} {tpos : Pos} (a e it : Addr) :
    Turn P w K (.Tuple elts kk tpos) (IteT K a) [e, it] e (fun i h => (∃ old, IsEnum h e it ((i : Nat) : Int) old) ∧ h.IsTupleIter it a i ∧ e ≠ it ∧ a ≠ it) where
  mem := by simp
  obj := fun i h st b hb => by
    obtain ⟨⟨old, he⟩, ⟨o, ho, hc, hd⟩, _⟩ := st
    have e' : b = e ∨ b = it := by simpa using hb
    rcases e' with z | z
    · rw [z]; exact ⟨_, he, fun v q => nomatch q⟩
    · rw [z]; exact ⟨o, ho, fun v q => by rw [hd] at q; cases q⟩
  keep := fun i h h' st k => let ⟨⟨old, he⟩, hi, hne⟩ := st; ⟨⟨old, k e (by simp) _ he⟩, hi.at fun o q => k it (by simp) o q, hne⟩
  item := by
    intro X hP hw hK hc i pins s σ H E I hf st hg
    subst hP hw hK
    obtain ⟨⟨old, he⟩, hit, hne, hna⟩ := st
    obtain ⟨xs, x, hq, hx⟩ := hg
    obtain ⟨its, rv, p, hz⟩ := I.tuple hq
    obtain ⟨u, hu, ru⟩ := rv.get hx
    have p : s.heap.IsTuple a its.toArray := p
    have hel : e < s.heap.objs.size := Heap.lt_size he
    have hil : it < s.heap.objs.size := by obtain ⟨_, q, _⟩ := hit; exact Heap.lt_size q
    have hlt : i < its.toArray.size := by
      obtain ⟨h1, _⟩ := List.getElem?_eq_some_iff.mp hu
      simpa using h1
    have hea : e ∉ [it, a] := by
      have : e ≠ a := fun z => by
        subst z
        obtain ⟨o, q1, q2, _⟩ := p
        rw [he] at q1; cases q1
        exact absurd (Value.type.inj q2) (by decide)
      simp [hne, this]
    refine wpAny_pyNext_enum_itemD (Draws.tuple (by show X.A.handled = none; exact I.ok.hd hc) it a hna its.toArray) he ⟨hit, p⟩ hlt hne hea fun x' h' tk hx' ho st' hT hsz hk => ?_
    have hx2 : x' = u := by
      have hx' : its.toArray[i]? = some x' := hx'
      rw [List.getElem?_toArray] at hx'
      rw [hu] at hx'; cases hx'; rfl
    subst hx2
    obtain ⟨hit', _⟩ := st'
    refine ⟨_, rfl, wpAny_letOwnedTupleGo_enum (s := { s with heap := h', toks := tk + 1 }) ho fun h'' he' sb => ?_⟩
    have hT2 : h''.get? s.heap.objs.size = some { cls := .type "tuple", data := .seq #[.int i tk, x'] } := (sb.2 _ (Nat.ne_of_gt hel)).trans hT
    have new : ObjOk X.prog X.w (upd H s.heap.objs.size (.tup [.int (i : Nat), x])) h'' s.heap.objs.size (.tup [.int (i : Nat), x]) :=
      ⟨by show 2 ≤ sizeLine; decide, [.int i tk, x'], .cons ⟨_, rfl⟩ (.cons ru .nil), ⟨_, hT2, rfl, _, rfl⟩⟩
    have I1 : Inv X pins σ (upd H s.heap.objs.size (.tup [.int (i : Nat), x])) { s with heap := h'', toks := tk + 1 } :=
      I.turnedNew (ch := [e, it]) (fun b ob hb q => (sb.2 b (fun z => hb (by simp [z]))).trans (hk b ob (fun z => hb (by simp [z])) (fun z => hb (by simp [z])) q)) hf (Nat.le_refl _) new
    refine ⟨.ref s.heap.objs.size, _, I1, rfl, ⟨_, x, rfl, I.hok.fresh (Nat.le_refl _), rfl, fun ys hy => by rw [I.tuple_inj hy hq]; exact hx⟩, ⟨⟨x', ?_⟩, hit'.at fun o q => (sb.2 it (Ne.symm hne)).trans q, hne, hna⟩, fun b hb => ?_⟩
    · have e1 : ((i + 1 : Nat) : Int) = (i : Int) + 1 := by omega
      rw [e1]; exact he'
    · have hb' : b < s.heap.objs.size := by
        have e' : b = e ∨ b = it := by simpa using hb
        rcases e' with z | z
        · rw [z]; exact hel
        · rw [z]; exact hil
      rw [upd_ne (Nat.ne_of_lt hb')]
      exact (hf b hb).1
  done := by
    intro X hP hw hK hc i pins s σ H E I hf st hg
    subst hP hw hK
    obtain ⟨⟨old, he⟩, hit, hne, hna⟩ := st
    obtain ⟨xs, hq, hx⟩ := hg
    obtain ⟨its, rv, p, hz⟩ := I.tuple hq
    obtain ⟨f0, f1, f2, f3, f4, f5⟩ := hf it (by simp)
    have hl := rv.length
    have p : s.heap.IsTuple a its.toArray := p
    exact rw_enum_end (I.ok.hd hc) he hit p (by simp; omega) fun h' eb => ⟨rfl, I.turned (t' := s.toks) (fun b o hb q => eb b o hb q) f0 f1 f3 f4 f5⟩
  self := fun A i s Q E st h => let ⟨⟨_, he⟩, _⟩ := st; wpAny_pyIter_enum he h
def iEnumT (K : PySem.W.Frag) (ta : TA) : TI := fun σ H R => ta σ H fun vs H1 => ∃ a xs, vs = [.ref a] ∧ SqT K H1 a xs ∧ R (IteT K a) H1
theorem pi_enumT {X : Cx} {e : Expr} {ta : TA} {p pos tpos : Pos} {elts : List Expr} {kk : Nat} (hg : Gl X "enumerate") (hm : X.mg "enumerate" = none) (ha : PA X [e] ta) (hs : starEach [e] X.env = [(false, eval e X.env)]) :
    PI X (.Tuple elts kk tpos) (.Call (.Name "enumerate" p) [e] [] pos) (iEnumT X.K ta) := by
  refine ⟨fun pins s σ H R I h => ?_⟩
  refine Call_ (ld_blt I hg hm boot_enumerate (PyProof.Rows.callWith_type1 (thn (ha.run pos pins s σ H _ I h) fun us s1 ⟨vs, H1, I1, r1, q1⟩ => ?_) hs rfl))
  obtain ⟨a, xs, ex, hq, q⟩ := q1
  subst ex
  cases r1 with
  | cons r rr =>
    cases rr
    cases r
    obtain ⟨its, rv, p', hz⟩ := I1.tuple hq
    have p' : s1.heap.IsTuple a its.toArray := p'
    refine rw_call_enumerate p' fun h' he hit hsz hk => wpAny_pyIter_enum he ?_
    have I2 : Inv X pins σ H1 { s1 with heap := h' } := I1.kept (t' := s1.toks) hk
    have hal : a ≠ s1.heap.objs.size := by
      obtain ⟨o, q1, _⟩ := p'
      exact Nat.ne_of_lt (Heap.lt_size q1)
    refine ⟨s1.heap.objs.size + 1, [s1.heap.objs.size + 1, s1.heap.objs.size], _, _, H1, rfl, I2, turn_enumT a (s1.heap.objs.size + 1) s1.heap.objs.size, ⟨⟨.none, he⟩, hit, Nat.succ_ne_self _, hal⟩, fun b hb => ?_, q⟩
    have e' : b = s1.heap.objs.size + 1 ∨ b = s1.heap.objs.size := by simpa using hb
    have hle : s1.heap.objs.size ≤ b := by
      rcases e' with z | z
      · rw [z]; exact Nat.le_add_right _ _
      · rw [z]; exact Nat.le_refl _
    exact I1.fpOk hle (I1.hok.fresh hle)
section
variable {X : Cx} {C : DC} {L : Clo} {m1 : Env1 → Sto → Option (W × Sto)} {a : Expr} {p pos : Pos}
theorem pi_enumW (hK : C.K = X.K) {elts : List Expr} {kk : Nat} {tpos : Pos} (hg : Gl X "enumerate") (hm : X.mg "enumerate" = none) (ha : PE X a (tE C L m1)) (hst : notStar a = true) :
    PI X (.Tuple elts kk tpos) (.Call (.Name "enumerate" p) [a] [] pos) (tI C L fun e S => bd (m1 e S) fun x S => match x with
    | .d (.tuple xs) => some ((xs.zipIdx).map fun p => .tuple [.int p.2, p.1], S)
    | _ => none) :=
  (pi_enumT hg hm (pa_cons ha pa_nil (star_of hst)) (star_of hst)).imp fun σ H R ⟨O, φ, S, env, xs, S', at_, e, h⟩ => by
    refine tE.seq at_ e fun v1 x O1 φ1 H1 S1 n1 at1 w1 e => ?_
    split at e
    · cases e
      obtain ⟨a, vs, rfl, ha, t⟩ := (wk_d w1).tupleK
      exact ⟨a, vs, rfl, hK ▸ ha, hK ▸ h _ O1 φ1 H1 n1 at1.sim (.enum (wk_d w1))⟩
    · cases e
end
end RW
set_option Elab.async false
set_option linter.all false
set_option maxRecDepth 100000
set_option maxHeartbeats 4000000
namespace RW
open PySem PySem.W PyProof.Rows L2
variable {X : Cx} {C : DC} {L : Clo}
/-! ### a dict of owned lists -/
def freshL (xs : List D) (S : Sto) : Option (W × Sto) := ob (strsD xs) fun l => if decide (l.Nodup) && decide (l.length ≤ 1000) then some (.drefs (l.zipIdx.map fun p => (p.1, S.length + p.2)), S ++ List.replicate l.length (.lst [])) else none
theorem strsD_eq : ∀ {xs : List D} {l : List Str}, strsD xs = some l → xs = l.map .str
  | [], l, e => by cases e; rfl
  | x :: r, l, e => by
    unfold strsD at e
    split at e
    · cases e; rename_i h; cases h
    · rename_i y r' h
      cases h
      obtain ⟨l', e1, rfl⟩ := Option.map_eq_some_iff.mp e
      rw [strsD_eq e1]; rfl
    · cases e
theorem mergeK_nodup : ∀ {kvs kvs0 : List (Key × V)}, ((kvs0 ++ kvs).map (·.1)).Nodup → mergeK kvs0 kvs = kvs0 ++ kvs
  | [], kvs0, _ => by simp [mergeK]
  | p :: r, kvs0, h => by
    have hn : valV kvs0 p.1 = none := by
      cases hv : valV kvs0 p.1 with
      | none => rfl
      | some y =>
        exfalso
        unfold valV at hv
        obtain ⟨q, hq, e⟩ := Option.map_eq_some_iff.mp hv
        have h1 := List.mem_of_find?_eq_some hq
        have h2 := List.find?_some hq
        have h2 := of_decide_eq_true h2
        rw [List.map_append, List.nodup_append] at h
        exact h.2.2 q.1 (List.mem_map_of_mem h1) p.1 (by simp) h2
    show mergeK (putK kvs0 p.1 p.2) r = _
    rw [putK_new p.2 hn, mergeK_nodup (by simpa using h)]
    simp
abbrev PrL (H : Hp) : List Addr → List (Str × Addr) → Prop := Paired fun p q => H p = some (.tup [.str q.1, .ref q.2])
def tFresh (i : Nat) : TE := tTup (tCons (tVar i) (tCons (tLst tNil) tNil))
theorem zipIdx_map_len {α : Type} (l : List α) (n : Nat) : (l.zipIdx.map fun p => (p.1, n + p.2)).length = l.length := by simp
theorem freshD_read {i : Nat} {own : List Nat} {mi : Env1 → Sto → Option (List D × Sto)} (hi : i ∈ own) {σ : L2.St} {H : Hp} {Q : VK} {O : Ow} {φ : List Addr} {S S1 : Sto} {env : Env1} {xs : List D} {l : List Str} (at_ : At C L O φ H σ env S) (e1 : mi env S = some (xs, S1)) (ex : xs = l.map .str) (hl : l.length ≤ 1000) (hsl : i < env.length)
    (h : ∀ (D : Addr) (pa as : List Addr) (O' : Ow) (φ' : List Addr) (H' : Hp), Nxt O φ H O' φ' H' → Sim C O' φ' H' (S1 ++ List.replicate l.length (.lst [])) → H' D = some (.lst (pa.map V.ref)) → ¬ O' D → PrL H' pa (l.zip as) → as.length = l.length → (∃ φ1, φ1.length = S1.length ∧ φ' = φ1 ++ as) → Q (.ref D) H') :
    tLc (tI C L mi) (tG C L (.nm i)) tYes (tFresh i) own σ H Q := by
  refine ⟨O, φ, S, env, xs, S1, at_, e1, fun J O1 φ1 H1 n1 sm1 src D hD => ?_⟩
  have at1 := at_.next n1 sm1
  have hxl : xs.length = l.length := by rw [ex]; simp
  let WW : Nat → Hp → Prop := fun i H => i ≤ xs.length ∧ ∃ (O' : Ow) (as pa : List Addr), Sim C O' (φ1 ++ as) H (S1 ++ List.replicate i (.lst [])) ∧ EnvOk C L O' (φ1 ++ as) H (wipe σ own) (wipe1 env own) ∧ O' D ∧ D ∉ φ1 ++ as ∧ H D = some (.lst (pa.map V.ref)) ∧ PrL H pa ((l.take i).zip as) ∧ as.length = i ∧ pa.length = i ∧
      Nxt O1 φ1 H1 O' (φ1 ++ as) H ∧ Src C O' H J xs ∧ ∀ p ∈ pa, p ≠ D
  refine ⟨fun i m H => m = xs.length - i ∧ WW i H, ⟨xs.length, by simp, ?_⟩, ?_⟩
  · obtain ⟨nb, smb, nφ⟩ := sm1.begin hD
    exact ⟨Nat.zero_le _, O1.add D, [], [], by simpa using smb, by simpa using (at1.env.wipe own).mono sm1 nb, .inr rfl, by simpa using nφ, by simpa using upd_same, .nil, rfl, rfl, by simpa using nb, src.mono sm1 nb, by simp⟩
  · rintro j m H2 ⟨rfl, hj, O', as, pa, sm, env', hO, hφ, hHD, pr, la, lp, nx, src', hpD⟩
    by_cases hlt : j < xs.length
    · refine .inr ⟨src'.go hlt, fun H' => (xs.length - (j + 1) = xs.length - (j + 1) ∧ WW (j + 1) H'), fun H' q => ⟨xs.length - (j + 1), by omega, q⟩, fun x H3 y => ?_⟩
      obtain ⟨g, dx, exx, dn⟩ := src'.yld hlt y
      have hlj : j < l.length := by omega
      have edx : dx = .str l[j] := by
        rw [ex, List.getElem?_map, List.getElem?_eq_getElem hlj] at exx
        cases exx; rfl
      subst edx
      have nxt3 := nx.trans (fun a h => let ⟨o, e, _⟩ := sm1.ow a h; ⟨o, e⟩) (g.nxt (O := O') (φ := φ1 ++ as))
      have sm3 := sm.gr g
      have env3 := env'.mono sm (g.nxt (O := O') (φ := φ1 ++ as))
      have hD3 := g.keep _ _ hHD
      have hil : i < (wipe1 env own).length := by rw [wipe1_length]; exact hsl
      refine ⟨O', φ1 ++ as, (S1 ++ List.replicate j (MO.lst [])), wipe1 env own, .d (.str l[j]), (wipe1 env own).set i (some (.d (.str l[j]))), ⟨sm3, env3⟩, dn, ?_, fun σ2 hl2 env2 fr => ⟨?_, ?_⟩⟩
      · show asg1 _ _ _ = _
        unfold asg1
        rw [if_pos hil]
      · have ee : wipe σ2 own = wipe (wipe σ own) own := wipe_eq (by rw [hl2]) fun k hk => fr k fun z => hk (by
          have : k = i := by simpa [Tg.slots] using z
          rw [this]; exact hi)
        rw [ee]
        exact wipe_eq (by rw [wipe_length]) fun k hk => wipe_out hk
      · unfold tYes
        simp only [if_true]
        obtain ⟨v, ev, wv⟩ := env2.at_ i (.d (.str l[j])) (by
          unfold slot
          rw [List.getElem?_set_self hil])
        have hv : v = V.str l[j] := by
          cases wk_d wv; rfl
        subst hv
        refine ⟨_, ev, ?_⟩
        show (([] : List V).length ≤ sizeLine ∧ _)
        refine ⟨Nat.zero_le _, fun a ha => ?_⟩
        show (([V.str l[j], V.ref a] : List V).length ≤ sizeLine ∧ _)
        refine ⟨by show 2 ≤ sizeLine; decide, fun p hp => ?_⟩
        -- the new list, the pair
        obtain ⟨nx4, smk, hat⟩ := sm3.fresh (mo := .lst []) (o := .lst []) ha (fun _ z => nomatch z) fun _ z => nomatch z
        have sm4 := smk ⟨.inr rfl, [], upd_same, .nil⟩
        have haD : a ≠ D := fun z => by subst z; rw [ha] at hD3; cases hD3
        have hpa : p ≠ a := fun z => by subst z; rw [upd_same] at hp; cases hp
        have hpD' : p ≠ D := fun z => by subst z; rw [upd_ne (Ne.symm haD), hD3] at hp; cases hp
        have g5 : Gr (upd H3 a (.lst [])) (upd (upd H3 a (.lst [])) p (.tup [V.str l[j], V.ref a])) := Gr.new hp
        have sm5 := sm4.gr g5
        have nx5 := (nxt3.trans (fun a h => let ⟨o, e, _⟩ := sm1.ow a h; ⟨o, e⟩) nx4).trans (fun a h => let ⟨o, e, _⟩ := sm1.ow a h; ⟨o, e⟩) (g5.nxt (O := O'.add a) (φ := φ1 ++ as ++ [a]))
        have env5 := (env3.mono sm3 nx4).mono sm4 (g5.nxt (O := O'.add a) (φ := φ1 ++ as ++ [a]))
        have src5 := ((src'.mono sm (g.nxt (O := O') (φ := φ1 ++ as))).mono sm3 nx4).mono sm4 (g5.nxt (O := O'.add a) (φ := φ1 ++ as ++ [a]))
        have hD5 : (upd (upd H3 a (.lst [])) p (.tup [V.str l[j], V.ref a])) D = some (.lst (pa.map V.ref)) := by
          rw [upd_ne (Ne.symm hpD'), upd_ne (Ne.symm haD)]; exact hD3
        have hO5 : (O'.add a) D := .inl hO
        have nφ5 : D ∉ φ1 ++ as ++ [a] := fun z => by
          rcases List.mem_append.mp z with z | z
          · exact hφ z
          · rw [List.mem_singleton] at z; exact haD z.symm
        have pr5 : PrL (upd (upd H3 a (.lst [])) p (.tup [V.str l[j], V.ref a])) pa ((l.take j).zip as) := Paired.mapP pr fun q1 q2 e => g5.keep _ _ (by
          have e3 := g.keep _ _ e
          rw [upd_ne (fun z => by rw [z, ha] at e3; cases e3)]; exact e3)
        refine ⟨pa.map V.ref, hD5, ?_, True.intro, hlt, O'.add a, as ++ [a], pa ++ [p], ?_, ?_, hO5, ?_, ?_, ?_, by simp [la], by simp [lp], ?_, ?_, ?_⟩
        · rw [List.length_map, lp]
          exact Nat.lt_of_lt_of_le (Nat.lt_of_lt_of_le hlj hl) (by decide)
        · rw [List.replicate_succ', ← List.append_assoc, ← List.append_assoc]
          exact sm5.updO hO5 hD5 nφ5
        · rw [← List.append_assoc]
          exact env5.updO hO5 hD5
        · rw [← List.append_assoc]; exact nφ5
        · rw [upd_same, List.map_append]; rfl
        · have hz : (l.take (j + 1)).zip (as ++ [a]) = (l.take j).zip as ++ [(l[j], a)] := by
            rw [List.take_succ, List.getElem?_eq_getElem hlj, List.zip_append (by rw [List.length_take, la]; omega)]
            rfl
          rw [hz]
          refine Paired.mapP (Paired.snoc pr5 ?_) fun q1 q2 e => by
            rw [upd_ne (fun z => by subst z; rw [hD5] at e; cases e)]; exact e
          show upd (upd H3 a (.lst [])) p (.tup [V.str l[j], V.ref a]) p = some (.tup [V.str l[j], V.ref a])
          exact upd_same
        · rw [← List.append_assoc]; exact nx5.updO hD hD5
        · exact src5.updO hO5 hD5
        · intro q hq
          rcases List.mem_append.mp hq with z | z
          · exact hpD q z
          · rw [List.mem_singleton] at z; rw [z]; exact hpD'
    · have hi' : j = xs.length := by omega
      subst hi'
      obtain ⟨ne, sme⟩ := sm1.end_ hD sm hφ nx
      refine .inl ⟨src'.stop, h D pa as _ _ _ (n1.trans at_.ow ne) (by rw [← hxl]; exact sme) hHD (fun z => z.2 rfl) ?_ (by rw [la, hxl]) ⟨φ1, sm1.len, rfl⟩⟩
      rw [hxl, List.take_length] at pr
      exact pr
theorem drefs_ok {O : Ow} {φ φ1 as : List Addr} {H : Hp} {S1 : Sto} {l : List Str} {p : Addr} (e : φ = φ1 ++ as) (hl : φ1.length = S1.length) (la : as.length = l.length) (hO : ¬ O p) (hp : H p = some (.dK ((l.zip as).map fun q => ((.inr q.1 : Key), V.ref q.2)))) :
    WOk C L O φ H (.ref p) (.drefs (l.zipIdx.map fun q => (q.1, S1.length + q.2))) := by
  refine ⟨p, as, rfl, hO, ?_, ?_⟩
  · rw [hp]
    congr 2
    have : ∀ (l : List Str) (as : List Addr) (n : Nat), (l.zip as).map (fun q => ((.inr q.1 : Key), V.ref q.2)) = (((l.zipIdx n).map fun q => (q.1, S1.length + q.2)).zip as).map fun q => ((.inr q.1.1 : Key), V.ref q.2) := by
      intro l
      induction l with
      | nil => intro as n; simp
      | cons x l ih =>
        intro as n
        cases as with
        | nil => simp
        | cons a as => simp [ih as (n + 1)]
    exact this l as 0
  · subst e
    apply List.ext_getElem?
    intro j
    rw [List.map_map, List.getElem?_map, List.getElem?_map, List.getElem?_zipIdx]
    by_cases hj : j < l.length
    · rw [List.getElem?_eq_getElem hj, List.getElem?_eq_getElem (by omega)]
      simp only [Option.map_some, Function.comp, Nat.zero_add, Option.some.injEq]
      rw [List.getElem?_append_right (by omega), hl, Nat.add_sub_cancel_left, List.getElem?_eq_getElem (by omega)]
    · rw [List.getElem?_eq_none (by omega), List.getElem?_eq_none (by omega)]
      rfl
/-- dict([(x, []) for x in ..]) -/
theorem pe_freshDW {i : Nat} {x : Str} {p p1 p2 p3 p4 pos1 pos : Pos} {kk : Nat} {iter : Expr} {scope : Scope} {own : List (Str × Nat)} {mi : Env1 → Sto → Option (List D × Sto)} (hc : X.calm = true) (hN : X.N.Nodup) (hgl : Gl X "dict") (hm : X.mg "dict" = none) (hi : PI X (.Name x p4) iter (tI C L mi)) (ok : BlkOk X.N X.env.scope scope own)
    (hg : ∀ (s : Shared) (H : Hp) (A : Addr) (cl : List (Str × Addr)) (fp : List Addr), PG (X.blk s H scope (compEnvC scope cl A X.env) fp) (.Name x p4) (tG C L (.nm i)))
    (hv : ∀ (s : Shared) (H : Hp) (A : Addr) (cl : List (Str × Addr)) (fp : List Addr), Vis (X.blk s H scope (compEnvC scope cl A X.env) fp).env.scope x) (hx : X.N[i]? = some x) (hd : (x == ("__debug__" : Str)) = false) (hcd : (x == ("__classdict__" : Str)) = false)
    (hs : notSet iter = true) (hsl : i ∈ own.map (·.2)) : PE X (.Call (.Name "dict" p) [.ListComp (.Tuple [.Name x p1, .List [] p2] kk p3) [⟨.Name x p4, iter, [], 0⟩] scope pos1] [] pos)
      (tE C L fun e S => bd (mi e S) fun xs S => if i < e.length then freshL xs S else none) := by
  have q := pe_callTy (pos := pos) (p := p) (call_dictP hc) hgl hm PyProof.Rows.boot_dict (pa_cons (pe_lc (pos := pos1) hc hN hi ok hg (fun _ _ _ _ _ => pts_nil) (fun s H A cl fp => pe_tup (x1 := kk) (pos := p3) (pa_cons (pe_var (pos := p1) (i := i) hx (hv s H A cl fp) hd hcd) (pa_cons (pe_lst (pos := p2) pa_nil) pa_nil))) fun _ => fold_of hs) pa_nil) (by decide) (by decide) (by rfl) (by rfl)
  refine q.imp fun σ H Q ⟨O, φ, S, env, w, S', at_, e, h⟩ => ?_
  obtain ⟨xs, S1, e1, e⟩ := bd_eq e
  split at e
  · rename_i hil
    unfold freshL at e
    obtain ⟨l, el, e⟩ := ob_eq e
    split at e
    · rename_i hb
      rw [Bool.and_eq_true, decide_eq_true_eq, decide_eq_true_eq] at hb
      cases e
      suffices key : tLc (tI C L mi) (tG C L (.nm i)) tYes (tFresh i) (own.map (·.2)) σ H (fun v H1 => ∃ (a : Addr) (ps : List Addr) (kvs : List (Key × V)), [v] = [V.ref a] ∧ SqL X.K H1 a (ps.map V.ref) ∧ Paired (fun p kv => SqT X.K H1 p [kV kv.1, kv.2]) ps kvs ∧ ∀ p, H1 p = none → Q (.ref p) (upd H1 p (.dK (mergeK [] kvs)))) from key
      refine freshD_read (hi := hsl) at_ e1 (strsD_eq el) hb.2 hil fun D pa as O' φ' H' n sm hD hO pr la ⟨φ1, l1, eφ⟩ => ?_
      refine ⟨D, pa, (l.zip as).map fun q => ((.inr q.1 : Key), V.ref q.2), rfl, SqL.of hD, ?_, fun p hp => ?_⟩
      · clear eφ hD
        revert pr
        generalize l.zip as = ls
        intro pr
        induction pr with
        | nil => exact .nil
        | cons h t ih => exact .cons (SqT.of h) ih
      · rw [mergeK_nodup (by
          rw [List.nil_append, List.map_map]
          have : ((fun q : Key × V => q.1) ∘ fun q : Str × Addr => ((.inr q.1 : Key), V.ref q.2)) = fun q => (.inr q.1 : Key) := rfl
          rw [this]
          have e2 : (l.zip as).map (fun q => (.inr q.1 : Key)) = l.map .inr := by
            have := List.map_fst_zip (l₁ := l) (l₂ := as) (by omega)
            rw [← this, List.map_map, this]
            rfl
          rw [e2]
          exact List.Pairwise.map _ (fun a b ne e => ne (Sum.inr.inj e)) hb.1), List.nil_append]
        exact h _ _ _ _ (n.trans at_.ow (Gr.new hp).nxt) (sm.gr (.new hp)) (drefs_ok eφ l1 la (fun z => by obtain ⟨o, e, _⟩ := sm.ow p z; rw [hp] at e; cases e) upd_same)
    · cases e
  · cases e
/-- dict(..) of a list of pairs -/
theorem mergeK_rel {O : Ow} {H : Hp} : ∀ {kvs : List (Key × V)} {ps : List (D × D)} {kvs0 : List (Key × V)} {xs0 : List (D × D)}, ps.map (·.1) = kvs.map (fun p => kD p.1) → DnA C O H (kvs.map (·.2)) (ps.map (·.2)) → xs0.map (·.1) = kvs0.map (fun p => kD p.1) → DnA C O H (kvs0.map (·.2)) (xs0.map (·.2)) →
    (ps.foldl (fun kvs p => dput kvs p.1 p.2) xs0).map (·.1) = (mergeK kvs0 kvs).map (fun p => kD p.1) ∧ DnA C O H ((mergeK kvs0 kvs).map (·.2)) ((ps.foldl (fun kvs p => dput kvs p.1 p.2) xs0).map (·.2))
  | [], [], kvs0, xs0, _, _, e, t => ⟨e, t⟩
  | p :: kvs, q :: ps, kvs0, xs0, e1, t1, e, t => by
    simp only [List.map_cons, List.cons.injEq] at e1
    cases t1 with
    | cons hz t1 =>
    obtain ⟨r1, r2⟩ := dput_rel (f := kD) eqv_kD p.1 hz e t
    rw [← e1.1] at r1 r2
    exact mergeK_rel (kvs := kvs) (ps := ps) e1.2 t1 r1 r2
  | [], _ :: _, _, _, e, _, _, _ => by cases e
  | _ :: _, [], _, _, e, _, _, _ => by cases e
theorem pairsD_rel (hK : C.K = X.K) {O : Ow} {H : Hp} : ∀ {xs : List D} {vs : List V} {ps : List (D × D)}, DnA C O H vs xs → pairsD xs = some ps → ps.all (fun p => !isTupD p.1) = true → ∃ (as : List Addr) (kvs : List (Key × V)), vs = as.map V.ref ∧ Paired (fun p kv => SqT X.K H p [kV kv.1, kv.2]) as kvs ∧ ps.map (·.1) = kvs.map (fun p => kD p.1) ∧ DnA C O H (kvs.map (·.2)) (ps.map (·.2))
  | [], _, ps, .nil, e, _ => by cases e; exact ⟨[], [], rfl, .nil, rfl, .nil⟩
  | x :: r, v :: vs, ps, .cons h t, e, ha => by
    unfold pairsD at e
    split at e
    · rename_i hh; cases hh
    · rename_i k y r' hh
      cases hh
      split at e
      · rename_i hk
        obtain ⟨ps', e1, rfl⟩ := Option.map_eq_some_iff.mp e
        rw [List.all_cons, Bool.and_eq_true] at ha
        obtain ⟨as, kvs, rfl, pr, e2, t2⟩ := pairsD_rel hK t e1 ha.2
        obtain ⟨a, us, rfl, hq, tt⟩ := (Rb.d h).tuple hK
        cases tt with
        | cons hkk tt =>
        cases tt with
        | cons hy tt =>
        cases tt
        have hka : keyA k = true := by
          cases k with
          | tuple zs => simp [isTupD] at ha
          | _ => first | rfl | cases hk
        obtain ⟨kk, rfl⟩ := keyA_of hka
        rw [Dn.kV hkk] at hq
        exact ⟨a :: as, (kk, _) :: kvs, rfl, .cons hq pr, by rw [List.map_cons, List.map_cons, e2], .cons hy t2⟩
      · cases e
    · cases e
theorem pe_dictOfW {a : Expr} {p pos : Pos} {m : Env1 → Sto → Option (W × Sto)} (hK : C.K = X.K) (hc : X.calm = true) (hg : Gl X "dict") (hm : X.mg "dict" = none) (ha : PE X a (tE C L m)) (hst : notStar a = true) :
    PE X (.Call (.Name "dict" p) [a] [] pos) (tE C L fun e S => bd (m e S) dictW) :=
  (pe_callTy (call_dictP hc) hg hm PyProof.Rows.boot_dict (pa_cons ha pa_nil (star_of hst)) (by decide) (by decide) (star_of hst) rfl).imp fun σ H Q ⟨O, φ, S, env, w, S', at_, e, h⟩ => by
    refine tE.seq at_ e fun v1 x O1 φ1 H1 S1 n1 at1 w1 e => ?_
    unfold dictW at e
    split at e
    · rename_i xs
      obtain ⟨ps, ep, e⟩ := ob_eq e
      split at e
      · rename_i hb
        rw [Bool.and_eq_true, decide_eq_true_eq] at hb
        cases e
        obtain ⟨l, vs, rfl, hq, t⟩ := (Rb.d (wk_d w1)).list
        obtain ⟨as, kvs, rfl, pr, e2, t2⟩ := pairsD_rel hK t ep hb.2
        refine ⟨l, as, kvs, rfl, SqL.of hq, pr, fun p hp => ?_⟩
        obtain ⟨r1, r2⟩ := mergeK_rel (kvs0 := []) (xs0 := []) e2 t2 rfl .nil
        exact h _ _ _ _ (n1.trans at_.ow (Gr.new hp).nxt) (at1.sim.gr (.new hp)) (Dn.dicK (fun z => by obtain ⟨o, e, _⟩ := at1.sim.ow p z; rw [hp] at e; cases e) upd_same r1 (r2.gr (.new hp)))
      · cases e
    · cases e
theorem noSl_of {b : Expr} (h : notSl b = true) : NoSl b := by
  intro o i
  cases b <;> first | rfl | cases h
/-- found[x], the list -/
theorem pe_subRW {a b : Expr} {pos : Pos} {m1 m2 : Env1 → Sto → Option (W × Sto)} (hu : X.A.units + 1 < cLine) (ha : PE X a (tE C L m1)) (hb : PE X b (tE C L m2)) (hs : NoSl b) : PE X (.Subscript a b pos) (tE C L fun e S => bd (m1 e S) fun x S => bd (m2 e S) fun y S => subRW x y S) :=
  (pe_dget hu ha hb hs).imp fun σ H Q ⟨O, φ, S, env, w, S', at_, e, h⟩ => by
    refine tE.seq at_ e fun v1 x O1 φ1 H1 S1 n1 at1 w1 e => ?_
    refine tE.seq at1 e fun v2 y O2 φ2 H2 S2 n2 at2 w2 e => ?_
    have w1 := w1.mono at1.sim n2
    obtain ⟨l, rfl⟩ | hx : (∃ l, x = .drefs l) ∨ ∀ l, x ≠ .drefs l := by
      cases x with
      | drefs l => exact .inl ⟨l, rfl⟩
      | _ => exact .inr fun _ z => by cases z
    obtain ⟨k, rfl⟩ | hy : (∃ k, y = .d (.str k)) ∨ ∀ k, y ≠ .d (.str k) := by
      by_cases hh : ∃ k, y = .d (.str k)
      · exact .inl hh
      · exact .inr fun k z => hh ⟨k, z⟩
    · have e : (l.find? fun p => decide (p.1 = k)).map (fun p => (W.ref p.2, S2)) = some (w, S') := e
      obtain ⟨q, hq, e⟩ := Option.map_eq_some_iff.mp e
      cases e
      obtain ⟨a, as, rfl, no, ea, m⟩ := w1
      cases wk_d w2
      have key : ∀ (l : List (Str × Nat)) (as : List Addr), l.map (fun p => φ2[p.2]?) = as.map some → l.find? (fun p => decide (p.1 = k)) = some q → ∃ r, φ2[q.2]? = some r ∧ valV ((l.zip as).map fun p => ((.inr p.1.1 : Key), V.ref p.2)) (.inr k) = some (V.ref r) := by
        intro l
        induction l with
        | nil => intro as _ h; cases h
        | cons p l ih =>
          intro as hm hf
          cases as with
          | nil => cases hm
          | cons r as =>
            simp only [List.map_cons, List.cons.injEq] at hm
            by_cases hk : p.1 = k
            · rw [List.find?_cons_of_pos (by simp [hk])] at hf
              cases hf
              exact ⟨r, hm.1, by simp [valV, hk]⟩
            · rw [List.find?_cons_of_neg (by simp [hk])] at hf
              obtain ⟨r', h1, h2⟩ := ih as hm.2 hf
              refine ⟨r', h1, ?_⟩
              rw [← h2]
              have : ¬ ((.inr p.1 : Key) = .inr k) := fun z => hk (Sum.inr.inj z)
              simp [valV, List.find?_cons, this]
      obtain ⟨r, h1, h2⟩ := key l as m hq
      refine ⟨a, V.ref r, rfl, ?_, ?_⟩
      · have := DGet.k (k := (.inr k : Key)) ea
        rw [h2] at this
        exact this
      · exact h _ _ _ _ (n1.trans at_.ow n2) at2.sim ⟨r, h1, rfl⟩
    · exfalso
      unfold subRW at e
      split at e
      · exact hy _ rfl
      · cases e
    · exfalso
      unfold subRW at e
      split at e
      · exact hx _ rfl
      · cases e
end RW
set_option Elab.async false
set_option linter.all false
set_option maxRecDepth 100000
set_option maxHeartbeats 2000000
/-! the text against the core terms -/
namespace RW
open PySem PySem.W PyProof.Rows L2
structure Ck where
  N : List Str
  sc : Scope
  fnb : Str → Bool
  nm : Nat → Option Str
  par : Nat → List Str
  ini : Nat
  kr : Nat → Bool
  lcOk : Bool
  ext : RW.E → Expr → Bool := fun _ _ => false
  gvs : List Str := []
def Ck.blk (k : Ck) (scope : Scope) : Ck := { k with sc := relS scope k.sc, fnb := fun x => scope.names.lookup x == some .cell, ext := fun _ _ => false }
def visB (k : Ck) (x : Str) : Bool := match k.sc.names.lookup x with
  | some .local => true
  | some .cell => true
  | some .free => true
  | _ => false
def glB (k : Ck) (x : Str) : Bool := match k.sc.names.lookup x with
  | some .globalImplicit => true
  | _ => false
def okN (x : Str) : Bool := !(x == ("__debug__" : Str)) && !(x == ("__classdict__" : Str)) && !(x == ("__name__" : Str))
def nmB (k : Ck) (i : Nat) (x : Str) : Bool := decide (k.N[i]? = some x) && visB k x && okN x
def tgB (k : Ck) (i : Nat) (x : Str) : Bool := decide (k.N[i]? = some x) && (match k.sc.names.lookup x with
  | some .local => true
  | some .cell => k.fnb x
  | _ => false)
def namesB (k : Ck) : List Nat → List Expr → Bool
  | [], [] => true
  | i :: l, .Name x _ :: es => tgB k i x && namesB k l es
  | _, _ => false
def chkTg (k : Ck) : Tg → Expr → Bool
  | .nm i, .Name x _ => tgB k i x
  | .tp l, .Tuple es _ _ => namesB k l es
  | .tp1 i l, .Tuple [.Name x _, .Tuple es _ _] _ _ => tgB k i x && namesB k l es
  | _, _ => false
def constB : D → Const → Bool
  | .none, .none => true
  | .bool b, .bool c => b == c
  | .int i, .int j => decide (i = j)
  | .str x, .str y => decide (x = y)
  | _, _ => false
def strip : Expr → Expr
  | .BoolOp _ [z] _ => z
  | a => a
def isTup : Expr → Bool
  | .Tuple _ _ _ => true
  | _ => false
/-- built-ins by their names: functions, types -/
def biFn : Bi → Option Str
  | .abs => some "abs"
  | .sorted => some "sorted"
  | .all => some "all"
  | .any => some "any"
  | .max => some "max"
  | .min => some "min"
  | .divmod => some "divmod"
  | _ => none
def biTy : Bi → Option Str
  | .int => some "int"
  | .tuple => some "tuple"
  | .list => some "list"
  | _ => none
def meName : Me → Str
  | .append => "append"
  | .extend => "extend"
  | .pop => "pop"
  | .pop1 => "pop"
  | .count => "count"
  | .index => "index"
  | .split => "split"
  | .get2 => "get"
def meLen : Me → Nat
  | .pop => 0
  | .get2 => 2
  | _ => 1
def meOk : Me → Bool
  | .append => true
  | .extend => true
  | .pop => true
  | .pop1 => true
  | .split => true
  | _ => false
def isTyName (t : String) : Bool := t == "tuple" || t == "list" || t == "str" || t == "int" || t == "bool" || t == "dict" || t == "Web"
def partB (f : Str) : Bool := decide (f = "places") || decide (f = "ties") || decide (f = "parts")
/-- a flag for tests: a value that is plain, or one of the tests' own forms -/
def tB (t : Bool) (a : Expr) : Bool := !t || plainT a
mutual
def chk (k : Ck) (t : Bool) : E → Expr → Bool
  | .v i, a => tB t (strip a) && (match strip a with
    | .Name x _ => nmB k i x
    | _ => false)
  | .k x, a => tB t (strip a) && (match strip a with
    | .Constant c _ _ => constB x c
    | _ => false)
  | .g x, a => tB t (strip a) && (match strip a with
    | .Name y _ => decide (x = y) && glB k y && okN y && decide (x ∈ k.gvs)
    | _ => false)
  | .fn f, a => tB t (strip a) && (match strip a with
    | .Name y _ => decide (k.nm f = some y) && glB k y && okN y
    | _ => false)
  | .bin o x y, a => tB t (strip a) && (match strip a with
    | .BinOp x' o' y' _ => decide (o = o') && chk k false x x' && chk k false y y'
    | _ => false)
  | .neg x, a => tB t (strip a) && (match strip a with
    | .UnaryOp .USub x' _ => chk k false x x'
    | _ => false)
  | .nt x, a => match strip a with
    | .UnaryOp .Not x' _ => chk k t x x'
    | _ => false
  | .and x y, a => match strip a with
    | .BoolOp .And (x' :: y' :: r) p => chk k t x x' && chk k t y (.BoolOp .And (y' :: r) p)
    | _ => false
  | .or x y, a => match strip a with
    | .BoolOp .Or (x' :: y' :: r) p => chk k t x x' && chk k t y (.BoolOp .Or (y' :: r) p)
    | _ => false
  | .ite c x y, a => !t && (match strip a with
    | .IfExp c' x' y' _ => chk k true c c' && chk k false x x' && chk k false y y'
    | _ => false)
  | .cmp o x y, a => match strip a with
    | .Compare x' [o'] [y'] _ => decide (o = o') && chk k false x x' && chk k false y y' && notSet y'
    | _ => false
  | .chn o o2 x y z, a => match strip a with
    | .Compare x' [o', o2'] [y', z'] _ => decide (o = o') && decide (o2 = o2') && chk k false x x' && chk k false y y' && chk k false z z' && notSet y' && notSet z'
    | _ => false
  | .tup es, a => tB t (strip a) && (match strip a with
    | .Tuple es' _ _ => chkEs k es es'
    | _ => false)
  | .lst es, a => tB t (strip a) && (match strip a with
    | .List es' _ => chkEs k es es'
    | _ => false)
  | .own es, a => tB t (strip a) && (match strip a with
    | .List es' _ => chkEs k es es'
    | _ => false)
  | .dic0 _, a => tB t (strip a) && (match strip a with
    | .Dict [] [] _ => true
    | _ => false)
  | .dic1 x y, a => tB t (strip a) && (match strip a with
    | .Dict [some x'] [y'] _ => chk k false x x' && chk k false y y'
    | _ => false)
  | .sub x y, a => tB t (strip a) && (match strip a with
    | .Subscript x' y' _ => chk k false x x' && chk k false y y' && notSl y'
    | _ => false)
  | .slc x lo hi, a => tB t (strip a) && (match strip a with
    | .Subscript x' (.Slice lo' hi' none _) _ => chk k false x x' && chkO k lo lo' && chkO k hi hi'
    | _ => false)
  | .rev x, a => tB t (strip a) && (match strip a with
    | .Subscript x' (.Slice none none (some (.UnaryOp .USub (.Constant (.int 1) _ _) _)) _) _ => chk k false x x'
    | _ => false)
  | .att x f, a => tB t (strip a) && (match strip a with
    | .Attribute x' f' _ => decide (f = f') && partB f && attOk x' && chk k false x x'
    | _ => false)
  | .call f es, a => tB t (strip a) && (match strip a with
    | .Call (.Name x _) es' [] _ => decide (k.nm f = some x) && glB k x && okN x && chkEs k es es' && es'.all notStar
    | _ => false)
  | .callK f es, a => tB t (strip a) && (match strip a with
    | .Call (.Name x _) [] kws _ => k.kr f && decide (k.nm f = some x) && glB k x && okN x && chkKw k es kws && decide (kws.map (·.arg) = (k.par f).reverse.map some)
    | _ => false)
  | .make f c es, a => tB t (strip a) && (match strip a with
    | .Call (.Name x _) (e0 :: es') [] _ => decide (f = k.ini) && decide (x = c) && decide (c = "Web") && glB k x && okN x && chkEs k es (e0 :: es') && (e0 :: es').all notStar
    | _ => false)
  | .makeK f c es, a => tB t (strip a) && (match strip a with
    | .Call (.Name x _) [] kws _ => k.kr f && decide (f = k.ini) && decide (x = c) && decide (c = "Web") && glB k x && okN x && chkKw k es kws && decide (kws.map (·.arg) = (k.par f).tail.reverse.map some)
    | _ => false)
  | .callV i es, a => tB t (strip a) && (match strip a with
    | .Call (.Name x _) (e0 :: es') [] _ => nmB k i x && chkEs k es (e0 :: es') && (e0 :: es').all notStar
    | _ => false)
  | .callL f es l cs, a => !t && k.ext (.callL f es l cs) a
  | .bi b es, a => tB t (strip a) && (match strip a with
    | .Call (.Name x _) (e0 :: es') [] _ => okN x && glB k x && (e0 :: es').all notStar && (match b with
      | .len => decide (x = "len") && chkEs k es (e0 :: es')
      | .isinst ty => decide (x = "isinstance") && isTyName ty && (match es, es' with
        | .cons e .nil, [.Name c _] => chk k false e e0 && decide (c = Str.ofString ty) && glB k c && okN c
        | _, _ => false)
      | .listRange => decide (x = "list") && (match es, e0, es' with
        | .cons e .nil, .Call (.Name r _) [n] [] _, [] => decide (r = "range") && glB k r && notStar n && chk k false e n
        | _, _, _ => false)
      | b => (decide (biFn b = some x) || decide (biTy b = some x)) && chkEs k es (e0 :: es'))
    | _ => false)
  | .me m x es, a => tB t (strip a) && (match strip a with
    | .Call (.Attribute o f ap) es' [] cp => meOk m && decide (f = meName m) && attOk o && (ap.endLine == cp.line) && chk k false x o && chkEs k es es' && es'.all notStar && decide (es'.length = meLen m)
    | _ => false)
  | .ownList x, a => tB t (strip a) && (match strip a with
    | .Call (.Name l _) [x'] [] _ => decide (l = "list") && glB k l && notStar x' && chk k false x x'
    | _ => false)
  | .freshD i x, a => tB t (strip a) && (match strip a with
    | .Call (.Name d _) [.ListComp (.Tuple [.Name y _, .List [] _] _ _) [⟨.Name z _, iter, [], 0⟩] scope _] [] _ => k.lcOk && decide (d = "dict") && glB k d && decide (y = z) && blkC k.N k.sc scope [(y, i)] && tgB (k.blk scope) i z && nmB (k.blk scope) i y && chk k false x iter && notSet iter
    | _ => false)
  | .dictOf x, a => tB t (strip a) && (match strip a with
    | .Call (.Name d _) [x'] [] _ => decide (d = "dict") && glB k d && notStar x' && chk k false x x'
    | _ => false)
  | .subR x y, a => tB t (strip a) && (match strip a with
    | .Subscript x' y' _ => chk k false x x' && chk k false y y' && notSl y'
    | _ => false)
  | .srt x, a => !t && k.ext (.srt x) a
  | .minK x, a => !t && k.ext (.minK x) a
  | .lc elt (.mk tg it ifs) own, a => tB t (strip a) && (match strip a with
    | .ListComp elt' [⟨tg', iter, ifs', 0⟩] scope _ => k.lcOk && blkC k.N k.sc scope (own.map fun i => (k.N[i]?.getD "", i)) && chkI k it tg' iter && chkTg (k.blk scope) tg tg' && chkIf (k.blk scope) ifs ifs' && chk (k.blk scope) false elt elt' && notSet iter && tg.slots.all fun i => own.contains i
    | _ => false)
  | .lc2 e g1 g2 own, a => !t && k.ext (.lc2 e g1 g2 own) a
  | .frz i, a => tB t (strip a) && (match strip a with
    | .Name x _ => nmB k i x
    | _ => false)
def chkEs (k : Ck) : Es → List Expr → Bool
  | .nil, [] => true
  | .cons e r, a :: as => notStar a && chk k false e a && chkEs k r as
  | .star e r, .Starred a _ :: as => chk k false e a && chkEs k r as
  | _, _ => false
def chkKw (k : Ck) : Es → List Keyword → Bool
  | .nil, [] => true
  | .cons e r, w :: ws => chk k false e w.value && chkKw k r ws
  | _, _ => false
def chkO (k : Ck) : Eo → Option Expr → Bool
  | .no, none => true
  | .so e, some a => chk k false e a
  | _, _ => false
def chkIf (k : Ck) : Eo → List Expr → Bool
  | .no, [] => true
  | .so e, [a] => chk k true e a
  | _, _ => false
def chkI (k : Ck) : It → Expr → Expr → Bool
  | .e x, _, a => chk k false x a
  | .r1 x, _, a => match a with
    | .Call (.Name r _) [x'] [] _ => decide (r = "range") && glB k r && notStar x' && chk k false x x'
    | _ => false
  | .r2 x y, _, a => match a with
    | .Call (.Name r _) [x', y'] [] _ => decide (r = "range") && glB k r && notStar x' && notStar y' && chk k false x x' && chk k false y y'
    | _ => false
  | .zip x y, tg, a => match a with
    | .Call (.Name r _) [x', y'] [] _ => decide (r = "zip") && glB k r && notStar x' && notStar y' && chk k false x x' && chk k false y y' && isTup tg
    | _ => false
  | .enum x, tg, a => match a with
    | .Call (.Name r _) [x'] [] _ => decide (r = "enumerate") && glB k r && notStar x' && chk k false x x' && isTup tg
    | _ => false
end
/-! statements -/
def isStarB : Expr → Bool
  | .Starred _ _ => true
  | _ => false
/-- how a pair's (or a triple's) names are stored: none: not told -/
def swapF (names : List (Str × NameKind)) (ts vs : List Expr) : Option (Option (List Str)) :=
  if !(ts.length == 2 || ts.length == 3) || vs.length != ts.length then some none
  else if vs.any isStarB then some none
  else
    let line := (ts.head?.map (·.pos.line)).getD 0
    let ns := ts.filterMap fun
      | .Name id pos => if names.lookup id == some .local && pos.line == line then some id else none
      | _ => none
    if ns.length != ts.length || ns.eraseDups.length != ns.length then some none
    else if vs.all (foldedForSure 8) then some none
    else if vs.all (constantsAlone 8) then none
    else some (some ns)
/-- y = [..] on one line, y a local name -/
def swB (k : Ck) (tg v : Expr) : Bool := match v with
  | .ListComp _ _ scope lpos => match tg with
    | .Name y py => decide (k.sc.names.lookup y = some .local) && (py.line == lpos.line) && !(scope.names.any fun (n, kd) => n == y && (kd == .local || kd == .cell))
    | _ => false
  | _ => false
def isLc : Expr → Bool
  | .ListComp _ _ _ _ => true
  | _ => false
def isName : Expr → Bool
  | .Name _ _ => true
  | _ => false
mutual
def chkT (k : Ck) : T → Stmt → Bool
  | .asg t e, s => match s with
    | .Assign [tg] v p => chkTg k t tg && chk k false e v && (isName tg || !isTup v) && (match swB k tg v with
      | false => notLc v || isLc v
      | true => (match e, v with
        | .lc _ _ _, .ListComp _ _ _ _ => true
        | _, _ => false))
    | _ => false
  | .par l es, s => match s with
    | .Assign [.Tuple ts _ _] (.Tuple vs _ _) _ => namesB k l ts && chkEs k es vs && vs.all notStar && decide (l.length ≤ 100) && (match swapF k.sc.names ts vs with
      | some none => true
      | some (some ns) => (match l, ts, vs with
        | [i, j], [.Name x _, .Name y _], [_, _] => decide (i ≠ j) && decide (ns = [x, y]) && decide (k.sc.names.lookup x = some .local) && decide (k.sc.names.lookup y = some .local)
        | [i, j, m], [.Name x _, .Name y _, .Name z _], [_, _, _] => decide (i ≠ j) && decide (i ≠ m) && decide (j ≠ m) && decide (ns = [x, y, z]) && decide (k.sc.names.lookup x = some .local) && decide (k.sc.names.lookup y = some .local) && decide (k.sc.names.lookup z = some .local)
        | _, _, _ => false)
      | none => false)
    | _ => false
  | .setI a i e, s => match s with
    | .Assign [.Subscript a' i' _] v _ => chk k false a a' && chk k false i i' && notSl i' && chk k false e v && notLc v
    | _ => false
  | .setIT a i j e, s => match s with
    | .Assign [.Tuple [.Subscript a' i' _, .Name x _] _ _] v _ => chk k false a a' && chk k false i i' && notSl i' && tgB k j x && chk k false e v && notLc v && !isTup v
    | _ => false
  | .setF a f e, s => match s with
    | .Assign [.Attribute a' f' _] v _ => decide (f = f') && decide (f = "all_told") && chk k false a a' && chk k false e v && notLc v
    | _ => false
  | .ex e, s => match s with
    | .Expr v _ => chk k false e v && notLc v
    | _ => false
  | .ret e, s => match s with
    | .Return (some v) _ => chk k false e v
    | _ => false
  | .retN, s => match s with
    | .Return none _ => true
    | _ => false
  | .ite c a b, s => match s with
    | .If c' a' b' _ => chk k true c c' && chkTs k a a' && chkTs k b b'
    | _ => false
  | .for t it b, s => match s with
    | .For tg iter b' [] _ => chkTg k t tg && chkI k it tg iter && notSet iter && chkTs k b b'
    | _ => false
  | .whl c b, s => match s with
    | .While c' b' [] _ => chk k true c c' && chkTs k b b'
    | _ => false
  | .pass, s => match s with
    | .Pass _ => true
    | _ => false
  | .never, _ => true
def chkTs (k : Ck) : Ts → List Stmt → Bool
  | .nil, [] => true
  | .cons t r, s :: ss => chkT k t s && chkTs k r ss
  | _, _ => false
end
end RW
set_option Elab.async false
set_option linter.all false
set_option maxRecDepth 100000
set_option maxHeartbeats 4000000
/-! what the check tells -/
namespace RW
open PySem PySem.W PyProof.Rows L2
def bnames : List Str := ["len", "abs", "int", "tuple", "list", "sorted", "all", "any", "max", "min", "divmod", "isinstance", "range", "zip", "enumerate", "str", "bool", "dict", "set"]
/-- what is known where the text runs -/
structure Fx (C : DC) (L : Clo) (nm : Nat → Option Str) (par : Nat → List Str) (ini : Nat) (kr : Nat → Bool) (call : Call) (X : Cx) : Prop where
  hK : C.K = X.K
  ok : DCok C
  calm : X.calm = true
  hu : X.A.units + 64 < cLine
  r3 : Room 3 X.A
  nd : X.N.Nodup
  bm : ∀ x, x ∈ bnames → X.mg x = none
  fn : ∀ f x, nm f = some x → ∃ (a : Addr) (lv : Nat) (fd : FuncData), X.mg x = some (.ref a) ∧ C.fns f = some a ∧ PySem.W.keepIn X.K (.ref a) = true ∧ FnOk X.prog X.w X.K X.mg X.base C8.CX0 lv a fd (par f) (spC C noL (call f)) ∧ Room lv X.A ∧ Binds X.K fd (par f) [] ∧ (kr f = true → KRev fd (par f))
  fns : ∀ n a, C.fns n = some a → FnX X C a fun ws S => call n.toNat ws S
  lam : ∀ a k cs, L a k cs → LamOk X C a fun ws S => call k (cs.map .d ++ ws) S
  web : ∃ (A fi : Addr) (lv : Nat) (fd : FuncData), X.mg "Web" = some (.ref A) ∧ C.cls "Web" = some A ∧ Mk X.K A fi ∧ FnOk X.prog X.w X.K X.mg X.base C8.CX0 lv fi fd (par ini) (spC C noL (call ini)) ∧ Room (lv + 1) X.A ∧ Binds X.K fd (par ini) [] ∧ (kr ini = true → KRev1 fd (par ini))
  get : ∀ f A, partB f = true → C.cls "Web" = some A → GetOk X.prog X.w X.K X.mg X.base C A f
  noat : ∀ c A, C.cls c = some A → NoAttr X.K A "all_told"
/-- the names -/
structure Nm (C : DC) (call : Call) (L : Clo) (nm : Nat → Option Str) (par : Nat → List Str) (ini : Nat) (kr : Nat → Bool) (k : Ck) (X : Cx) : Prop where
  nm : k.nm = nm
  par : k.par = par
  ini : k.ini = ini
  kr : k.kr = kr
  lc : k.lcOk = true → ∀ a j cs, ¬ L a j cs
  N : X.N = k.N
  sc : X.env.scope = k.sc
  fn : X.fn = k.fnb
  ext : ∀ e a, k.ext e a = true → PE X a (tE C L (evE call e))
  gv : ∀ x y, x ∈ k.gvs → GV x = some y → ∃ v u, X.mg x = some u ∧ RelV v u ∧ ∀ O H, Dn C O H v y
section
variable {C : DC} {L : Clo} {nm : Nat → Option Str} {par : Nat → List Str} {ini : Nat} {kr : Nat → Bool} {call : Call} {X : Cx} {k : Ck} {m : Env1 → Sto → Option (W × Sto)} {t : Bool} {a : Expr}
theorem Fx.blk (F : Fx C L nm par ini kr call X) (s : Shared) (H : Hp) (scope : Scope) (cenv : Env) (fp : List Addr) (hlam : ∀ a k cs, L a k cs → LamOk (X.blk s H scope cenv fp) C a fun ws S => call k (cs.map .d ++ ws) S) : Fx C L nm par ini kr call (X.blk s H scope cenv fp) :=
  ⟨F.hK, F.ok, F.calm, F.hu, F.r3, F.nd, F.bm, F.fn, fun n a h => let ⟨q⟩ := F.fns n a h; ⟨q⟩, hlam, F.web, fun f A h1 h2 => let ⟨q⟩ := F.get f A h1 h2; ⟨q⟩, F.noat⟩
theorem Nm.blk (h : Nm C call L nm par ini kr k X) (s : Shared) (H : Hp) (scope : Scope) (A : Addr) (cl : List (Str × Addr)) (fp : List Addr) : Nm C call L nm par ini kr (k.blk scope) (X.blk s H scope (compEnvC scope cl A X.env) fp) :=
  ⟨h.nm, h.par, h.ini, h.kr, h.lc, h.N, by show relS scope X.env.scope = relS scope k.sc; rw [h.sc], rfl, (fun e a z => nomatch (show false = true from z)), h.gv⟩
theorem Nm.vis (h : Nm C call L nm par ini kr k X) {x : Str} (e : visB k x = true) : Vis X.env.scope x := by
  unfold visB at e
  rw [← h.sc] at e
  split at e
  · exact .inl (by assumption)
  · exact .inr (.inl (by assumption))
  · exact .inr (.inr (by assumption))
  · cases e
theorem Nm.gl (h : Nm C call L nm par ini kr k X) {x : Str} (e : glB k x = true) : Gl X x := by
  unfold glB at e
  rw [← h.sc] at e
  split at e
  · assumption
  · cases e
theorem okN_of {x : Str} (h : okN x = true) : (x == ("__debug__" : Str)) = false ∧ (x == ("__classdict__" : Str)) = false ∧ x ≠ "__name__" := by
  unfold okN at h
  rw [Bool.and_eq_true, Bool.and_eq_true] at h
  refine ⟨by simpa using h.1.1, by simpa using h.1.2, ?_⟩
  have := h.2
  simpa using this
theorem nmB_of (h : Nm C call L nm par ini kr k X) {i : Nat} {x : Str} (e : nmB k i x = true) : X.N[i]? = some x ∧ Vis X.env.scope x ∧ (x == ("__debug__" : Str)) = false ∧ (x == ("__classdict__" : Str)) = false := by
  unfold nmB at e
  rw [Bool.and_eq_true, Bool.and_eq_true] at e
  exact ⟨by rw [h.N]; exact of_decide_eq_true e.1.1, h.vis e.1.2, (okN_of e.2).1, (okN_of e.2).2.1⟩
theorem tgB_of (h : Nm C call L nm par ini kr k X) {i : Nat} {x : Str} (e : tgB k i x = true) : X.N[i]? = some x ∧ Loc X.env.scope x ∧ (X.fn x = true ∨ X.env.scope.names.lookup x = some .local) := by
  unfold tgB at e
  rw [Bool.and_eq_true] at e
  refine ⟨by rw [h.N]; exact of_decide_eq_true e.1, ?_⟩
  have e2 := e.2
  rw [← h.sc] at e2
  split at e2
  · exact ⟨.inl (by assumption), .inr (by assumption)⟩
  · exact ⟨.inr (by assumption), .inl (by rw [h.fn]; exact e2)⟩
  · cases e2
theorem namesB_of (h : Nm C call L nm par ini kr k X) : ∀ {l : List Nat} {es : List Expr}, namesB k l es = true → es.length = l.length ∧ ∀ (j : Nat) (e : Expr) (i : Nat), es[j]? = some e → l[j]? = some i → ∃ x p, e = .Name x p ∧ X.N[i]? = some x ∧ Loc X.env.scope x ∧ (X.fn x = true ∨ X.env.scope.names.lookup x = some .local)
  | [], [], _ => ⟨rfl, fun j e i a _ => by simp at a⟩
  | i :: l, e :: es, hh => by
    cases e with
    | Name x p =>
      have hh : (tgB k i x && namesB k l es) = true := hh
      rw [Bool.and_eq_true] at hh
      obtain ⟨h1, h2⟩ := namesB_of h hh.2
      refine ⟨by simp [h1], fun j e i' a b => ?_⟩
      cases j with
      | zero =>
        simp only [List.getElem?_cons_zero, Option.some.injEq] at a b
        subst a b
        exact ⟨x, p, rfl, tgB_of h hh.1⟩
      | succ j => exact h2 j e i' (by simpa using a) (by simpa using b)
    | _ => cases hh
  | [], e :: es, hh => by cases e <;> cases hh
  | i :: l, [], hh => by cases hh
theorem chkTg_ok (F : Fx C L nm par ini kr call X) (h : Nm C call L nm par ini kr k X) {tg : Tg} {a : Expr} (e : chkTg k tg a = true) : PG X a (tG C L tg) := by
  unfold chkTg at e
  split at e
  · obtain ⟨h1, h2, h3⟩ := tgB_of h e
    exact pg_nameW F.nd h1 h2 h3
  · obtain ⟨h1, h2⟩ := namesB_of h e
    obtain ⟨g1, g2, g3⟩ := pgs_names F.nd h2 h1
    exact pg_tupW F.hK F.calm g1 g2 g3
  · rw [Bool.and_eq_true] at e
    obtain ⟨q1, q2, q3⟩ := tgB_of h e.1
    obtain ⟨h1, h2⟩ := namesB_of h e.2
    obtain ⟨g1, g2, g3⟩ := pgs_names F.nd h2 h1
    exact pg_tup1W F.hK F.calm F.nd q1 q2 q3 g1 g2 g3
  · cases e
/-! expressions' readings, as values and as tests -/
structure Res (C : DC) (L : Clo) (X : Cx) (t : Bool) (a : Expr) (m : Env1 → Sto → Option (W × Sto)) : Prop where
  val : t = false → PE X a (tE C L m)
  tst : t = true → PT X a (tT C L fun e S => tb (m e S))
  tw : t = true → ∀ o zs p, a = .BoolOp o zs p → PW X a (tT C L fun e S => tb (m e S))
theorem Res.strip (h : Res C L X t (strip a) m) : Res C L X t a m := by
  unfold RW.strip at h
  split at h
  · rename_i o z p
    refine ⟨fun e => pe_one (h.val e), fun e => ?_, fun e o' zs p' ea => ?_⟩
    · cases o
      · exact (pw_and1 (h.tst e)).pt
      · exact (pw_or1 (h.tst e)).pt
    · cases ea
      cases o
      · exact pw_and1 (h.tst e)
      · exact pw_or1 (h.tst e)
  · exact h
theorem Res.plain (hp : tB t a = true) (h : PE X a (tE C L m)) : Res C L X t a m := by
  refine ⟨fun _ => h, fun e => ?_, fun e o zs p ea => ?_⟩
  · subst e
    have hp' : plainT a = true := by simpa [tB] using hp
    exact pt_valW h (plainT_of hp')
  · subst e ea
    simp [tB, plainT] at hp
theorem Res.both (hb : ∀ o zs p, a ≠ .BoolOp o zs p) (h : PE X a (tE C L m)) (h' : PT X a (tT C L fun e S => tb (m e S))) : Res C L X t a m := ⟨fun _ => h, fun _ => h', fun _ o zs p e => absurd e (hb o zs p)⟩
theorem constB_of {x : D} {c : Const} {kk : Nat} {p : Pos} (h : constB x c = true) : PE X (.Constant c kk p) (tE C L fun _ S => some (.d x, S)) := by
  unfold constB at h
  split at h
  · exact pe_c pe_non fun O H => .non
  · rw [beq_iff_eq] at h; subst h; exact pe_c pe_bl fun O H => .bl _
  · have h := of_decide_eq_true h; subst h; exact pe_c pe_int fun O H => .int _
  · have h := of_decide_eq_true h; subst h; exact pe_c pe_str fun O H => .str _
  · cases h
theorem bool3 {a b c : Bool} (h : (a && b && c) = true) : a = true ∧ b = true ∧ c = true := by
  rw [Bool.and_eq_true, Bool.and_eq_true] at h
  exact ⟨h.1.1, h.1.2, h.2⟩
theorem bool2 {a b : Bool} (h : (a && b) = true) : a = true ∧ b = true := by rwa [Bool.and_eq_true] at h
theorem kw_all {kws : List Keyword} {pos : Pos} {env : Env} {ns : List Str} (h : kws.map (·.arg) = ns.map some) : (backToKw pos (keywordEach kws env)).all (·.1.isSome) = true ∧ (backToKw pos (keywordEach kws env)).filterMap (·.1) = ns ∧ (backToKw pos (keywordEach kws env)).any (·.1.isNone) = false := by
  have e : ∀ kws : List Keyword, (backToKw pos (keywordEach kws env)).map (·.1) = kws.map (·.arg) := fun kws => by
    induction kws with
    | nil => rfl
    | cons w ws ih =>
      obtain ⟨a, v, p⟩ := w
      show a :: (backToKw pos (keywordEach ws env)).map (·.1) = _
      rw [ih]; rfl
  have e1 := (e kws).trans h
  generalize backToKw pos (keywordEach kws env) = l at e1
  induction l generalizing ns kws with
  | nil =>
    cases ns with
    | nil => exact ⟨rfl, rfl, rfl⟩
    | cons _ _ => cases e1
  | cons w ws ih =>
    cases ns with
    | nil => cases e1
    | cons n ns =>
      obtain ⟨a, v⟩ := w
      simp only [List.map_cons, List.cons.injEq] at e1
      obtain ⟨rfl, e2⟩ := e1
      cases kws with
      | nil => cases h
      | cons w' ws' =>
        simp only [List.map_cons, List.cons.injEq] at h
        obtain ⟨h1, h2, h3⟩ := ih (kws := ws') (ns := ns) h.2 e2
        refine ⟨?_, ?_, ?_⟩
        · simp only [List.all_cons, Option.isSome_some, Bool.true_and]; exact h1
        · simp only [List.filterMap_cons]; rw [h2]
        · simp only [List.any_cons, Option.isNone_some, Bool.false_or]; exact h3
theorem unas {x y : Expr} {p : Pos} {X : Cx} (h : notSl y = true) : ∀ v, assign (.Subscript x y p) X.env v = (do
      let ov ← holding [v] (eval x X.env)
      let iv ← holding [v, ov] (eval y X.env)
      standAt p
      holding [v, ov, iv] (setItem ov iv v)
      release [v, ov, iv] []) := by
  intro v
  cases y <;> first | rfl | cases h
end
end RW
set_option Elab.async false
set_option linter.all false
set_option maxRecDepth 100000
set_option maxHeartbeats 8000000
namespace RW
open PySem PySem.W PyProof.Rows L2
section
variable {C : DC} {L : Clo} {nm : Nat → Option Str} {par : Nat → List Str} {ini : Nat} {kr : Nat → Bool} {call : Call} {X : Cx} {k : Ck} {m : Env1 → Sto → Option (W × Sto)} {t : Bool} {a : Expr}
theorem Res.of (hv : PE X a (tE C L m)) (ht : t = false) : Res C L X t a m := by
  subst ht
  exact ⟨fun _ => hv, fun e => (nomatch e), fun e => (nomatch e)⟩
theorem bm_of (F : Fx C L nm par ini kr call X) {x : Str} (h : x ∈ bnames) : X.mg x = none := F.bm x h
/-- built-in functions of data -/
theorem bi_rule (F : Fx C L nm par ini kr call X) {b : Bi} {x : Str} {p pos : Pos} {e0 : Expr} {es : List Expr} {ms : Env1 → Sto → Option (List W × Sto)} (h : (decide (biFn b = some x) || decide (biTy b = some x)) = true) (hg : Gl X x) (ha : PA X (e0 :: es) (tA C L ms)) (hst : (e0 :: es).all notStar = true) (ho : okN x = true) :
    PE X (.Call (.Name x p) (e0 :: es) [] pos) (tE C L (biW (biD b) ms)) := by
  obtain ⟨o1, o2, o3⟩ := okN_of ho
  rw [Bool.or_eq_true, decide_eq_true_eq, decide_eq_true_eq] at h
  rcases h with h | h
  · cases b <;> first | (cases h; done) | skip
    all_goals (cases h)
    · exact pe_biB call_absB hg (bm_of F (by decide)) (by rfl) ha hst o3 o1
    · exact pe_biB (call_sortB F.hK F.hu) hg (bm_of F (by decide)) (by rfl) ha hst o3 o1
    · exact pe_biB (call_allB F.calm) hg (bm_of F (by decide)) (by rfl) ha hst o3 o1
    · exact pe_biB (call_anyB F.calm) hg (bm_of F (by decide)) (by rfl) ha hst o3 o1
    · exact pe_biB (call_maxB F.hK F.calm F.hu) hg (bm_of F (by decide)) (by rfl) ha hst o3 o1
    · exact pe_biB (call_minB F.hK F.calm F.hu) hg (bm_of F (by decide)) (by rfl) ha hst o3 o1
    · exact pe_biB call_divmodB hg (bm_of F (by decide)) (by rfl) ha hst o3 o1
  · cases b <;> first | (cases h; done) | skip
    all_goals (cases h)
    · exact pe_biT call_intB hg (bm_of F (by decide)) (by rfl) ha hst o3 o1
    · exact pe_biT (call_tupB F.hK) hg (bm_of F (by decide)) (by rfl) ha hst o3 o1
    · exact pe_biT (call_listB F.hK F.calm) hg (bm_of F (by decide)) (by rfl) ha hst o3 o1
theorem bi_eq {b : Bi} {es : Es} (h : b ≠ .len) : evE call (.bi b es) = biW (biD b) (evEs call es) := by
  cases b <;> first | rfl | exact absurd rfl h
theorem bi_len {es : Es} : evE call (.bi .len es) = lenW (evEs call es) := by
  funext en S
  show bd (evEs call es en S) _ = bd (evEs call es en S) _
  cases evEs call es en S with
  | none => rfl
  | some q =>
    obtain ⟨ws, S'⟩ := q
    rcases ws with _ | ⟨w, _ | ⟨w2, r⟩⟩
    · rfl
    · cases w <;> rfl
    · cases w <;> rfl
theorem isinst_eq {ty : String} {e : E} : evE call (.bi (.isinst ty) (.cons e .nil)) = fun en S => bd (evE call e en S) fun x S => ob (rd S x) fun x => (isD ty x).map fun b => (.d (.bool b), S) := by
  funext en S
  show bd (bd (evE call e en S) fun x S => bd (some ([], S)) fun xs S => some (x :: xs, S)) _ = _
  cases evE call e en S with
  | none => rfl
  | some q =>
    obtain ⟨x, S'⟩ := q
    show ob (List.mapM (rd S') [x]) _ = ob (rd S' x) _
    cases hr : rd S' x with
    | none => simp [hr, ob]
    | some y =>
      have e1 : List.mapM (rd S') [x] = some [y] := by simp [hr]
      rw [e1]
      show Option.map _ ((isD ty y).map PyData.bool) = Option.map _ (isD ty y)
      cases isD ty y <;> rfl
theorem lrg_eq {e : E} : evE call (.bi .listRange (.cons e .nil)) = fun en S => bd (evE call e en S) fun x S => ob (rd S x) fun x => (bListRange [x]).map fun z => (.d z, S) := by
  funext en S
  show bd (bd (evE call e en S) fun x S => bd (some ([], S)) fun xs S => some (x :: xs, S)) _ = _
  cases evE call e en S with
  | none => rfl
  | some q =>
    obtain ⟨x, S'⟩ := q
    show ob (List.mapM (rd S') [x]) _ = ob (rd S' x) _
    cases hr : rd S' x with
    | none => simp [hr, ob]
    | some y => simp [hr, ob, biD]
theorem ty_cls (F : Fx C L nm par ini kr call X) {ty : String} {c : Str} {p : Pos} (ht : isTyName ty = true) (hc : c = Str.ofString ty) (hg : Gl X c) (ho : okN c = true) : ∃ vc, PE X (.Name c p) (tC vc) ∧ IsCls C ty vc := by
  obtain ⟨o1, o2, o3⟩ := okN_of ho
  unfold isTyName at ht
  simp only [Bool.or_eq_true, beq_iff_eq] at ht
  rcases ht with (((((h | h) | h) | h) | h) | h) | h <;> subst h <;> subst hc
  · exact ⟨.ty "tuple", pe_bltn hg (F.bm _ (by decide)) (by rfl) rfl o3 o1, .inl ⟨by decide, rfl⟩⟩
  · exact ⟨.ty "list", pe_bltn hg (F.bm _ (by decide)) (by rfl) rfl o3 o1, .inl ⟨by decide, rfl⟩⟩
  · exact ⟨.ty "str", pe_bltn hg (F.bm _ (by decide)) (by rfl) rfl o3 o1, .inl ⟨by decide, rfl⟩⟩
  · exact ⟨.ty "int", pe_bltn hg (F.bm _ (by decide)) (by rfl) rfl o3 o1, .inl ⟨by decide, rfl⟩⟩
  · exact ⟨.ty "bool", pe_bltn hg (F.bm _ (by decide)) (by rfl) rfl o3 o1, .inl ⟨by decide, rfl⟩⟩
  · exact ⟨.ty "dict", pe_bltn hg (F.bm _ (by decide)) (by rfl) rfl o3 o1, .inl ⟨by decide, rfl⟩⟩
  · obtain ⟨A, fi, lv, fd, h1, h2, _⟩ := F.web
    exact ⟨.ref A, pe_glob hg h1 rfl o1, .inr ⟨rfl, A, h2, rfl⟩⟩
theorem lrg_eq' {e : E} : evE call (.bi .listRange (.cons e .nil)) = fun en S => bd (evE call e en S) fun x S => match x with
    | .d (.int j) => if small62 j && lim j.toNat then some (.d (.list (rangeL 0 j)), S) else none
    | _ => none := by
  rw [lrg_eq]
  funext en S
  cases evE call e en S with
  | none => rfl
  | some q =>
    obtain ⟨x, S'⟩ := q
    show ob (rd S' x) _ = _
    cases x with
    | d y =>
      cases y with
      | int j =>
        show Option.map _ (if (small62 j && lim j.toNat) = true then _ else _) = (if (small62 j && lim j.toNat) = true then _ else _)
        split <;> rfl
      | _ => rfl
    | ref i =>
      have e : ∀ r : Option D, (∀ z, r = some z → bListRange [z] = none) → (ob r fun x => Option.map (fun z => (W.d z, S')) (bListRange [x])) = none := by
        intro r hr
        cases r with
        | none => rfl
        | some z => show Option.map _ (bListRange [z]) = none; rw [hr z rfl]; rfl
      refine e _ fun z hz => ?_
      simp only [rd] at hz
      split at hz
      · cases hz; rfl
      · cases hz; rfl
      · cases hz
    | _ => rfl
theorem me_rule {me : Me} {o : Expr} {f : Str} {ap cp : Pos} {es : List Expr} {ms : Env1 → Sto → Option (List W × Sto)} (h0 : meOk me = true) (h1 : f = meName me) (h2 : es.length = meLen me)
    (ho : PE X o (tE C L m)) (ha : PA X es (tA C L ms)) (hnil : es = [] → ms = fun _ S => some ([], S)) (hb : attOk o = true) (hl : (ap.endLine == cp.line) = true) (hst : es.all notStar = true) :
    PE X (.Call (.Attribute o f ap) es [] cp) (tE C L (meE me m ms)) := by
  subst h1
  cases me with
  | append =>
    obtain ⟨e0, rfl⟩ := List.length_eq_one_iff.1 h2
    exact pe_meW PySem.F.plainAttrs_list PySem.F.slot_list_append (by rfl) mt_append ho ha (fun _ _ _ _ _ _ sm w t => meTy_list ⟨by decide, by decide⟩ sm w t) me_append hb hl (by simpa using hst)
  | extend =>
    obtain ⟨e0, rfl⟩ := List.length_eq_one_iff.1 h2
    exact pe_meW PySem.F.plainAttrs_list PySem.F.slot_list_extend (by rfl) mt_extend ho ha (fun _ _ _ _ _ _ sm w t => meTy_list ⟨by decide, by decide⟩ sm w t) me_extend hb hl (by simpa using hst)
  | pop =>
    obtain rfl := List.length_eq_zero_iff.1 h2
    rw [hnil rfl]
    exact pe_meW0 PySem.F.plainAttrs_list PySem.F.slot_list_pop (by rfl) mt_pop ho (fun _ _ _ _ _ _ sm w t => meTy_list ⟨by decide, by decide⟩ sm w t) me_pop hb hl
  | pop1 =>
    obtain ⟨e0, rfl⟩ := List.length_eq_one_iff.1 h2
    exact pe_meW PySem.F.plainAttrs_list PySem.F.slot_list_pop (by rfl) mt_popAt ho ha (fun _ _ _ _ _ _ sm w t => meTy_list ⟨by decide, by decide⟩ sm w t) me_popAt hb hl (by simpa using hst)
  | split =>
    obtain ⟨e0, rfl⟩ := List.length_eq_one_iff.1 h2
    exact pe_meW PySem.F.plainAttrs_str PySem.F.slot_str_split (by rfl) mt_split ho ha (fun _ _ _ _ _ _ sm w t => meTy_str sm w t) me_split hb hl (by simpa using hst)
  | _ => cases h0
theorem pts_oneW {mt : Env1 → Sto → Option (W × Sto)} (h : PT X a (tT C L fun e S => tb (mt e S))) : PTs X [a] (tT C L fun e S => tb (mt e S)) :=
  pts_one h
theorem lc_ok (F : Fx C L nm par ini kr call X) (n : Nm C call L nm par ini kr k X) {tg : Tg} {own : List Nat} {mi : Env1 → Sto → Option (List D × Sto)} {mt : Env1 → Sto → Option (Bool × Sto)} {me : Env1 → Sto → Option (W × Sto)} {tg' iter elt : Expr} {ifs : List Expr} {scope : Scope} {pos : Pos}
    (h1 : k.lcOk = true) (h2 : blkC k.N k.sc scope (own.map fun i : Nat => (k.N[i]?.getD ("" : Str), i)) = true) (hi : PI X tg' iter (tI C L mi)) (hg : chkTg (k.blk scope) tg tg' = true)
    (ht : ∀ X', Fx C L nm par ini kr call X' → Nm C call L nm par ini kr (k.blk scope) X' → PTs X' ifs (tT C L mt)) (he : ∀ X', Fx C L nm par ini kr call X' → Nm C call L nm par ini kr (k.blk scope) X' → PE X' elt (tE C L me))
    (h7 : notSet iter = true) (h8 : (tg.slots.all fun i => own.contains i) = true) : PE X (.ListComp elt [⟨tg', iter, ifs, 0⟩] scope pos) (tE C L (lcW own tg mi mt me)) := by
  have fx : ∀ (s : Shared) (H : Hp) (A : Addr) (cl : List (Str × Addr)) (fp : List Addr), Fx C L nm par ini kr call (X.blk s H scope (compEnvC scope cl A X.env) fp) := fun s H A cl fp => F.blk s H scope _ fp fun a j cs hl => absurd hl (n.lc h1 a j cs)
  have eo : (own.map fun i : Nat => (k.N[i]?.getD ("" : Str), i)).map (·.2) = own := by
    rw [List.map_map]
    exact (List.map_congr_left fun _ _ => rfl).trans (List.map_id own)
  have ok : BlkOk X.N X.env.scope scope (own.map fun i : Nat => (k.N[i]?.getD ("" : Str), i)) := by rw [n.N, n.sc]; exact blkOk_by h2
  have r := pe_lcW (C := C) (L := L) (pos := pos) F.calm F.nd hi ok (fun s H A cl fp => chkTg_ok (fx s H A cl fp) (n.blk s H scope A cl fp) hg) (fun s H A cl fp => ht _ (fx s H A cl fp) (n.blk s H scope A cl fp)) (fun s H A cl fp => he _ (fx s H A cl fp) (n.blk s H scope A cl fp)) h7 (fun i hi => by
    rw [eo]
    exact List.contains_iff_mem.1 (List.all_eq_true.1 h8 i hi))
  rw [eo] at r
  exact r
theorem freshD_ok (F : Fx C L nm par ini kr call X) (n : Nm C call L nm par ini kr k X) {i : Nat} {m : Env1 → Sto → Option (W × Sto)} {y : Str} {p p1 p2 p3 p4 pos pos' : Pos} {kk : Nat} {iter : Expr} {scope : Scope}
    (h1 : k.lcOk = true) (h3 : glB k "dict" = true) (h2 : blkC k.N k.sc scope [(y, i)] = true) (hi : PE X iter (tE C L m)) (hg : tgB (k.blk scope) i y = true) (hy : nmB (k.blk scope) i y = true) (h7 : notSet iter = true) :
    PE X (.Call (.Name "dict" p) [.ListComp (.Tuple [.Name y p1, .List [] p2] kk p3) [⟨.Name y p4, iter, [], 0⟩] scope pos'] [] pos) (tE C L fun e S => bd (m e S) fun x S => if i < e.length then freshDW x S else none) := by
  have fx : ∀ (s : Shared) (H : Hp) (A : Addr) (cl : List (Str × Addr)) (fp : List Addr), Fx C L nm par ini kr call (X.blk s H scope (compEnvC scope cl A X.env) fp) := fun s H A cl fp => F.blk s H scope _ fp fun a j cs hl => absurd hl (n.lc h1 a j cs)
  have ok : BlkOk X.N X.env.scope scope [(y, i)] := by rw [n.N, n.sc]; exact blkOk_by h2
  have hy2 := hy
  unfold nmB at hy2
  rw [Bool.and_eq_true, Bool.and_eq_true] at hy2
  have hx : X.N[i]? = some y := by rw [n.N]; exact of_decide_eq_true hy2.1.1
  have r := pe_freshDW (C := C) (L := L) (p := p) (p1 := p1) (p2 := p2) (p3 := p3) (p4 := p4) (pos1 := pos') (pos := pos) (kk := kk) F.calm F.nd (n.gl h3) (F.bm _ (by decide)) (pi_eW F.hK hi) ok (fun s H A cl fp => chkTg_ok (tg := .nm i) (fx s H A cl fp) (n.blk s H scope A cl fp) hg) (fun s H A cl fp => (nmB_of (n.blk s H scope A cl fp) hy).2.1) hx (okN_of hy2.2).1 (okN_of hy2.2).2.1 h7 (by simp)
  refine r.imp fun σ H Q ⟨O, φ, S, env, w, S', at_, e, h⟩ => ⟨O, φ, S, env, w, S', at_, ?_, h⟩
  obtain ⟨x, S1, e1, e⟩ := bd_eq e
  split at e
  · rename_i hil
    unfold freshDW at e
    split at e
    · rename_i xs
      have e2 : itW m env S = some (xs, S1) := by
        unfold itW
        rw [e1]
        rfl
      show bd (itW m env S) _ = _
      rw [e2]
      show (if i < env.length then freshL xs S1 else none) = _
      rw [if_pos hil]
      exact e
    · cases e
  · cases e
end
end RW
set_option Elab.async false
set_option linter.all false
set_option maxRecDepth 100000
set_option maxHeartbeats 8000000
namespace RW
open PySem PySem.W PyProof.Rows L2
section
variable {C : DC} {L : Clo} {nm : Nat → Option Str} {par : Nat → List Str} {ini : Nat} {kr : Nat → Bool} {call : Call}
mutual
theorem chk_ok : ∀ (e : E) (k : Ck) (t : Bool) (X : Cx) (a : Expr), Fx C L nm par ini kr call X → Nm C call L nm par ini kr k X → chk k t e a = true → Res C L X t a (evE call e)
  | .v i, k, t, X, a, F, n, h => by
    unfold chk at h
    generalize hs : strip a = b at h
    refine Res.strip ?_
    rw [hs]
    obtain ⟨hp, h⟩ := bool2 h
    split at h
    · obtain ⟨h1, h2, h3, h4⟩ := nmB_of n h
      exact .plain hp (pe_v h1 h2 h3 h4)
    · cases h
  | .k x, k, t, X, a, F, n, h => by
    unfold chk at h
    generalize hs : strip a = b at h
    refine Res.strip ?_
    rw [hs]
    obtain ⟨hp, h⟩ := bool2 h
    split at h
    · exact .plain hp (constB_of h)
    · cases h
  | .g x, k, t, X, a, F, n, h => by
    unfold chk at h
    generalize hs : strip a = b at h
    refine Res.strip ?_
    rw [hs]
    obtain ⟨hp, h⟩ := bool2 h
    split at h
    · obtain ⟨h, h4⟩ := bool2 h
      obtain ⟨h1, h2, h3⟩ := bool3 h
      have h1 := of_decide_eq_true h1
      subst h1
      obtain ⟨o1, o2, o3⟩ := okN_of h3
      refine .plain hp ⟨fun pins s σ H Q I ⟨O, φ, S, env, w, S', at_, e, q⟩ => ?_⟩
      cases hx : GV x with
      | none =>
        have e : (GV x).map (fun y => (W.d y, S)) = some (w, S') := e
        rw [hx] at e; cases e
      | some y =>
        have e : (GV x).map (fun y => (W.d y, S)) = some (w, S') := e
        rw [hx] at e; cases e
        obtain ⟨v, u, g1, g2, g3⟩ := n.gv x y (of_decide_eq_true h4) hx
        exact (pe_glob (n.gl h2) g1 g2 o1).run pins s σ H Q I (q v O φ H .refl at_.sim (g3 O H))
    · cases h
  | .fn f, k, t, X, a, F, n, h => by
    unfold chk at h
    generalize hs : strip a = b at h
    refine Res.strip ?_
    rw [hs]
    obtain ⟨hp, h⟩ := bool2 h
    split at h
    · obtain ⟨h1, h2, h3⟩ := bool3 h
      have h1 := of_decide_eq_true h1
      rw [n.nm] at h1
      obtain ⟨o1, o2, o3⟩ := okN_of h3
      obtain ⟨fa, lv, fd, f1, f2, _⟩ := F.fn f _ h1
      exact .plain hp (pe_c (pe_glob (v := .ref fa) (n.gl h2) f1 rfl o1) fun O H => .fn f2)
    · cases h
  | .bin o x y, k, t, X, a, F, n, h => by
    unfold chk at h
    generalize hs : strip a = b at h
    refine Res.strip ?_
    rw [hs]
    obtain ⟨hp, h⟩ := bool2 h
    split at h
    · obtain ⟨h1, h2, h3⟩ := bool3 h
      have h1 := of_decide_eq_true h1
      subst h1
      exact .plain hp (pe_binW F.hK o ((chk_ok x k false X _ F n h2).val rfl) ((chk_ok y k false X _ F n h3).val rfl))
    · cases h
  | .neg x, k, t, X, a, F, n, h => by
    unfold chk at h
    generalize hs : strip a = b at h
    refine Res.strip ?_
    rw [hs]
    obtain ⟨hp, h⟩ := bool2 h
    split at h
    · exact .plain hp (pe_negW ((chk_ok x k false X _ F n h).val rfl))
    · cases h
  | .nt x, k, t, X, a, F, n, h => by
    unfold chk at h
    generalize hs : strip a = b at h
    refine Res.strip ?_
    rw [hs]
    split at h
    · have r := chk_ok x k t X _ F n h
      refine ⟨fun e => pe_notW (r.val e), fun e => pt_notW (r.tst e), fun e o zs p q => by cases q⟩
    · cases h
  | .and x y, k, t, X, a, F, n, h => by
    unfold chk at h
    generalize hs : strip a = b at h
    refine Res.strip ?_
    rw [hs]
    split at h
    · obtain ⟨h1, h2⟩ := bool2 h
      have r1 := chk_ok x k t X _ F n h1
      have r2 := chk_ok y k t X _ F n h2
      exact ⟨fun e => pe_andW (r1.val e) (r2.val e), fun e => (pw_andW (r1.tst e) (r2.tw e _ _ _ rfl)).pt, fun e o zs p q => pw_andW (r1.tst e) (r2.tw e _ _ _ rfl)⟩
    · cases h
  | .or x y, k, t, X, a, F, n, h => by
    unfold chk at h
    generalize hs : strip a = b at h
    refine Res.strip ?_
    rw [hs]
    split at h
    · obtain ⟨h1, h2⟩ := bool2 h
      have r1 := chk_ok x k t X _ F n h1
      have r2 := chk_ok y k t X _ F n h2
      exact ⟨fun e => pe_orW (r1.val e) (r2.val e), fun e => (pw_orW (r1.tst e) (r2.tw e _ _ _ rfl)).pt, fun e o zs p q => pw_orW (r1.tst e) (r2.tw e _ _ _ rfl)⟩
    · cases h
  | .ite c x y, k, t, X, a, F, n, h => by
    unfold chk at h
    generalize hs : strip a = b at h
    refine Res.strip ?_
    rw [hs]
    obtain ⟨ht, h⟩ := bool2 h
    split at h
    · obtain ⟨h1, h2, h3⟩ := bool3 h
      exact .of (pe_iteW ((chk_ok c k true X _ F n h1).tst rfl) ((chk_ok x k false X _ F n h2).val rfl) ((chk_ok y k false X _ F n h3).val rfl)) (by simpa using ht)
    · cases h
  | .cmp o x y, k, t, X, a, F, n, h => by
    unfold chk at h
    generalize hs : strip a = b at h
    refine Res.strip ?_
    rw [hs]
    split at h
    · obtain ⟨h, h4⟩ := bool2 h
      obtain ⟨h1, h2, h3⟩ := bool3 h
      have h1 := of_decide_eq_true h1
      subst h1
      have r1 := (chk_ok x k false X _ F n h2).val rfl
      have r2 := (chk_ok y k false X _ F n h3).val rfl
      exact .both (fun _ _ _ q => by cases q) (pe_cmpW F.hK F.hu o r1 r2 (in_of h4)) (pt_cmpW F.hK F.hu o r1 r2 (in_of h4))
    · cases h
  | .chn o o2 x y z, k, t, X, a, F, n, h => by
    unfold chk at h
    generalize hs : strip a = b at h
    refine Res.strip ?_
    rw [hs]
    split at h
    · obtain ⟨h, h7⟩ := bool2 h
      obtain ⟨h, h6⟩ := bool2 h
      obtain ⟨h, h5⟩ := bool2 h
      obtain ⟨h, h4⟩ := bool2 h
      obtain ⟨h1, h2, h3⟩ := bool3 h
      have h1 := of_decide_eq_true h1
      have h2 := of_decide_eq_true h2
      subst h1 h2
      have r1 := (chk_ok x k false X _ F n h3).val rfl
      have r2 := (chk_ok y k false X _ F n h4).val rfl
      have r3 := (chk_ok z k false X _ F n h5).val rfl
      exact .both (fun _ _ _ q => by cases q) (pe_chnW F.hK F.hu r1 r2 r3 h7) (pt_chnW F.hK F.hu r1 r2 r3 h7)
    · cases h
  | .tup es, k, t, X, a, F, n, h => by
    unfold chk at h
    generalize hs : strip a = b at h
    refine Res.strip ?_
    rw [hs]
    obtain ⟨hp, h⟩ := bool2 h
    split at h
    · exact .plain hp (pe_tupW (chkEs_ok es k X _ F n h))
    · cases h
  | .lst es, k, t, X, a, F, n, h => by
    unfold chk at h
    generalize hs : strip a = b at h
    refine Res.strip ?_
    rw [hs]
    obtain ⟨hp, h⟩ := bool2 h
    split at h
    · exact .plain hp (pe_lstW (chkEs_ok es k X _ F n h))
    · cases h
  | .own es, k, t, X, a, F, n, h => by
    unfold chk at h
    generalize hs : strip a = b at h
    refine Res.strip ?_
    rw [hs]
    obtain ⟨hp, h⟩ := bool2 h
    split at h
    · exact .plain hp (pe_ownW (chkEs_ok es k X _ F n h))
    · cases h
  | .dic0 q, k, t, X, a, F, n, h => by
    unfold chk at h
    generalize hs : strip a = b at h
    refine Res.strip ?_
    rw [hs]
    obtain ⟨hp, h⟩ := bool2 h
    split at h
    · exact .plain hp pe_dic0W
    · cases h
  | .dic1 x y, k, t, X, a, F, n, h => by
    unfold chk at h
    generalize hs : strip a = b at h
    refine Res.strip ?_
    rw [hs]
    obtain ⟨hp, h⟩ := bool2 h
    split at h
    · obtain ⟨h1, h2⟩ := bool2 h
      exact .plain hp (pe_dic1W ((chk_ok x k false X _ F n h1).val rfl) ((chk_ok y k false X _ F n h2).val rfl))
    · cases h
  | .sub x y, k, t, X, a, F, n, h => by
    unfold chk at h
    generalize hs : strip a = b at h
    refine Res.strip ?_
    rw [hs]
    obtain ⟨hp, h⟩ := bool2 h
    split at h
    · obtain ⟨h1, h2, h3⟩ := bool3 h
      exact .plain hp (pe_subW F.hK F.hu ((chk_ok x k false X _ F n h1).val rfl) ((chk_ok y k false X _ F n h2).val rfl) (plainIx_of h3))
    · cases h
  | .slc x lo hi, k, t, X, a, F, n, h => by
    unfold chk at h
    generalize hs : strip a = b at h
    refine Res.strip ?_
    rw [hs]
    obtain ⟨hp, h⟩ := bool2 h
    split at h
    · obtain ⟨h1, h2, h3⟩ := bool3 h
      exact .plain hp (pe_slcW F.hK ((chk_ok x k false X _ F n h1).val rfl) (chkO_ok lo k X _ F n h2) (chkO_ok hi k X _ F n h3))
    · cases h
  | .rev x, k, t, X, a, F, n, h => by
    unfold chk at h
    generalize hs : strip a = b at h
    refine Res.strip ?_
    rw [hs]
    obtain ⟨hp, h⟩ := bool2 h
    split at h
    · exact .plain hp (pe_revW F.hK ((chk_ok x k false X _ F n h).val rfl))
    · cases h
  | .att x f, k, t, X, a, F, n, h => by
    unfold chk at h
    generalize hs : strip a = b at h
    refine Res.strip ?_
    rw [hs]
    obtain ⟨hp, h⟩ := bool2 h
    split at h
    · obtain ⟨h, h4⟩ := bool2 h
      obtain ⟨h1, h2, h3⟩ := bool3 h
      have h1 := of_decide_eq_true h1
      subst h1
      obtain ⟨A, fi, lv, fd, w1, w2, _⟩ := F.web
      exact .plain hp (pe_attW F.hK F.ok w2 (F.get f A h2 w2) F.r3 ((chk_ok x k false X _ F n h4).val rfl) h3)
    · cases h
  | .call f es, k, t, X, a, F, n, h => by
    unfold chk at h
    generalize hs : strip a = b at h
    refine Res.strip ?_
    rw [hs]
    obtain ⟨hp, h⟩ := bool2 h
    split at h
    · obtain ⟨h, h5⟩ := bool2 h
      obtain ⟨h, h4⟩ := bool2 h
      obtain ⟨h1, h2, h3⟩ := bool3 h
      have h1 := of_decide_eq_true h1
      rw [n.nm] at h1
      obtain ⟨fa, lv, fd, f1, f2, f3, f4, f5, f6, _⟩ := F.fn f _ h1
      exact .plain hp (pe_callW f4 f5 (n.gl h2) f1 f3 f6 (chkEs_ok es k X _ F n h4) h5 (okN_of h3).1 fun e => by
        subst e
        cases es with
        | nil => exact fun _ _ => rfl
        | _ => unfold chkEs at h4; cases h4)
    · cases h
  | .callK f es, k, t, X, a, F, n, h => by
    unfold chk at h
    generalize hs : strip a = b at h
    refine Res.strip ?_
    rw [hs]
    obtain ⟨hp, h⟩ := bool2 h
    split at h
    · obtain ⟨h, h5⟩ := bool2 h
      obtain ⟨h, h4⟩ := bool2 h
      obtain ⟨h, h3⟩ := bool2 h
      obtain ⟨h0, h1, h2⟩ := bool3 h
      rw [n.kr] at h0
      have h1 := of_decide_eq_true h1
      have h5 := of_decide_eq_true h5
      rw [n.nm] at h1
      rw [n.par] at h5
      obtain ⟨fa, lv, fd, f1, f2, f3, f4, f5, f6, f7⟩ := F.fn f _ h1
      obtain ⟨k1, k2, k3⟩ := kw_all h5
      exact .plain hp (pe_callKW f4 f5 (n.gl h2) f1 f3 (f7 h0) (chkKw_ok es k X _ F n h4) k1 k2 k3 (okN_of h3).1)
    · cases h
  | .make f c es, k, t, X, a, F, n, h => by
    unfold chk at h
    generalize hs : strip a = b at h
    refine Res.strip ?_
    rw [hs]
    obtain ⟨hp, h⟩ := bool2 h
    split at h
    · obtain ⟨h, h7⟩ := bool2 h
      obtain ⟨h, h6⟩ := bool2 h
      obtain ⟨h, h5⟩ := bool2 h
      obtain ⟨h, h4⟩ := bool2 h
      obtain ⟨h1, h2, h3⟩ := bool3 h
      have h1 := of_decide_eq_true h1
      have h2 := of_decide_eq_true h2
      have h3 := of_decide_eq_true h3
      subst h2
      subst h3
      rw [n.ini] at h1
      have h1 := h1.symm
      subst h1
      obtain ⟨A, fi, lv, fd, w1, w2, w3, w4, w5, w6, w7⟩ := F.web
      exact .plain hp (pe_makeW w3 w4 w5 w2 (n.gl h4) w1 w6 (chkEs_ok es k X _ F n h6) h7 (okN_of h5).1)
    · cases h
  | .makeK f c es, k, t, X, a, F, n, h => by
    unfold chk at h
    generalize hs : strip a = b at h
    refine Res.strip ?_
    rw [hs]
    obtain ⟨hp, h⟩ := bool2 h
    split at h
    · obtain ⟨h, h7⟩ := bool2 h
      obtain ⟨h, h6⟩ := bool2 h
      obtain ⟨h, h5⟩ := bool2 h
      obtain ⟨h, h4⟩ := bool2 h
      obtain ⟨h, h3⟩ := bool2 h
      obtain ⟨h0, h1, h2⟩ := bool3 h
      rw [n.kr] at h0
      have h1 := of_decide_eq_true h1
      have h2 := of_decide_eq_true h2
      have h3 := of_decide_eq_true h3
      subst h2
      subst h3
      rw [n.ini] at h1
      have h1 := h1.symm
      subst h1
      obtain ⟨A, fi, lv, fd, w1, w2, w3, w4, w5, w6, w7⟩ := F.web
      have h7 := of_decide_eq_true h7
      rw [n.par] at h7
      obtain ⟨k1, k2, k3⟩ := kw_all h7
      exact .plain hp (pe_makeKW w3 w4 w5 w2 (n.gl h4) w1 (w7 h0) (chkKw_ok es k X _ F n h6) k1 k2 k3 (okN_of h5).1)
    · cases h
  | .callV i es, k, t, X, a, F, n, h => by
    unfold chk at h
    generalize hs : strip a = b at h
    refine Res.strip ?_
    rw [hs]
    obtain ⟨hp, h⟩ := bool2 h
    split at h
    · obtain ⟨h1, h2, h3⟩ := bool3 h
      obtain ⟨q1, q2, q3, q4⟩ := nmB_of n h1
      exact .plain hp (pe_callVW F.fns F.lam q1 q2 q3 q4 (chkEs_ok es k X _ F n h2) h3)
    · cases h
  | .callL f es l cs, k, t, X, a, F, n, h => by
    unfold chk at h
    obtain ⟨h0, h⟩ := bool2 h
    cases t with
    | false => exact .plain rfl (n.ext _ _ h)
    | true => cases h0
  | .bi b es, k, t, X, a, F, n, h => by
    unfold chk at h
    generalize hs : strip a = z at h
    refine Res.strip ?_
    rw [hs]
    obtain ⟨hp, h⟩ := bool2 h
    split at h
    · obtain ⟨h, h4⟩ := bool2 h
      obtain ⟨h1, h2, h3⟩ := bool3 h
      have hg := n.gl h2
      split at h4
      · obtain ⟨h4, h5⟩ := bool2 h4
        have h4 := of_decide_eq_true h4
        subst h4
        rw [bi_len]
        exact .plain hp (pe_lenW F.hK hg (F.bm _ (by decide)) (chkEs_ok es k X _ F n h5) h3)
      · obtain ⟨h4, h5, h6⟩ := bool3 h4
        have h4 := of_decide_eq_true h4
        subst h4
        split at h6
        · obtain ⟨h6, h9⟩ := bool2 h6
          obtain ⟨h6, h7, h8⟩ := bool3 h6
          have h7 := of_decide_eq_true h7
          obtain ⟨vc, c1, c2⟩ := ty_cls F h5 h7 (n.gl h8) h9
          rw [isinst_eq]
          have h3' := h3
          simp only [List.all_cons, Bool.and_eq_true] at h3'
          exact .plain hp (pe_isW F.hK F.ok hg (F.bm _ (by decide)) ((chk_ok _ k false X _ F n h6).val rfl) c1 c2 h3'.1 rfl)
        · cases h6
      · obtain ⟨h4, h6⟩ := bool2 h4
        have h4 := of_decide_eq_true h4
        subst h4
        split at h6
        · obtain ⟨h6, h9⟩ := bool2 h6
          obtain ⟨h6, h7, h8⟩ := bool3 h6
          have h6 := of_decide_eq_true h6
          subst h6
          rw [lrg_eq']
          exact .plain hp (pe_lrgW F.calm hg (F.bm _ (by decide)) (n.gl h7) (F.bm _ (by decide)) ((chk_ok _ k false X _ F n h9).val rfl) h8)
        · cases h6
      · rename_i hb1 hb2 hb3
        obtain ⟨h4, h5⟩ := bool2 h4
        rw [bi_eq (by intro q; subst q; exact hb1 rfl)]
        exact .plain hp (bi_rule F h4 hg (chkEs_ok es k X _ F n h5) h3 h1)
    · cases h
  | .me m x es, k, t, X, a, F, n, h => by
    unfold chk at h
    generalize hs : strip a = b at h
    refine Res.strip ?_
    rw [hs]
    obtain ⟨hp, h⟩ := bool2 h
    split at h
    · obtain ⟨h, h6⟩ := bool2 h
      obtain ⟨h, h5⟩ := bool2 h
      obtain ⟨h, h4⟩ := bool2 h
      obtain ⟨h, h3⟩ := bool2 h
      obtain ⟨h, h2⟩ := bool2 h
      obtain ⟨h, h1⟩ := bool2 h
      obtain ⟨h0, h00⟩ := bool2 h
      exact .plain hp (me_rule h0 (of_decide_eq_true h00) (of_decide_eq_true h6) ((chk_ok x k false X _ F n h3).val rfl) (chkEs_ok es k X _ F n h4) (fun e => by
        subst e
        cases es with
        | nil => rfl
        | _ => unfold chkEs at h4; cases h4) h1 h2 h5)
    · cases h
  | .ownList x, k, t, X, a, F, n, h => by
    unfold chk at h
    generalize hs : strip a = b at h
    refine Res.strip ?_
    rw [hs]
    obtain ⟨hp, h⟩ := bool2 h
    split at h
    · obtain ⟨h, h4⟩ := bool2 h
      obtain ⟨h1, h2, h3⟩ := bool3 h
      have h1 := of_decide_eq_true h1
      subst h1
      exact .plain hp (pe_ownListW F.hK F.calm (n.gl h2) (F.bm _ (by decide)) ((chk_ok x k false X _ F n h4).val rfl) h3)
    · cases h
  | .freshD i x, k, t, X, a, F, n, h => by
    unfold chk at h
    generalize hs : strip a = b at h
    refine Res.strip ?_
    rw [hs]
    obtain ⟨hp, h⟩ := bool2 h
    split at h
    · obtain ⟨h, h9⟩ := bool2 h
      obtain ⟨h, h8⟩ := bool2 h
      obtain ⟨h, h7⟩ := bool2 h
      obtain ⟨h, h6⟩ := bool2 h
      obtain ⟨h, h5⟩ := bool2 h
      obtain ⟨h, h4⟩ := bool2 h
      obtain ⟨h1, h2, h3⟩ := bool3 h
      have h2 := of_decide_eq_true h2
      have h4 := of_decide_eq_true h4
      subst h2 h4
      exact .plain hp (freshD_ok F n h1 h3 h5 ((chk_ok x k false X _ F n h8).val rfl) h6 h7 h9)
    · cases h
  | .dictOf x, k, t, X, a, F, n, h => by
    unfold chk at h
    generalize hs : strip a = b at h
    refine Res.strip ?_
    rw [hs]
    obtain ⟨hp, h⟩ := bool2 h
    split at h
    · obtain ⟨h, h4⟩ := bool2 h
      obtain ⟨h1, h2, h3⟩ := bool3 h
      have h1 := of_decide_eq_true h1
      subst h1
      exact .plain hp (pe_dictOfW F.hK F.calm (n.gl h2) (F.bm _ (by decide)) ((chk_ok x k false X _ F n h4).val rfl) h3)
    · cases h
  | .subR x y, k, t, X, a, F, n, h => by
    unfold chk at h
    generalize hs : strip a = b at h
    refine Res.strip ?_
    rw [hs]
    obtain ⟨hp, h⟩ := bool2 h
    split at h
    · obtain ⟨h1, h2, h3⟩ := bool3 h
      exact .plain hp (pe_subRW (by have := F.hu; omega) ((chk_ok x k false X _ F n h1).val rfl) ((chk_ok y k false X _ F n h2).val rfl) (noSl_of h3))
    · cases h
  | .srt x, k, t, X, a, F, n, h => by
    unfold chk at h
    obtain ⟨h0, h⟩ := bool2 h
    cases t with
    | false => exact .plain rfl (n.ext _ _ h)
    | true => cases h0
  | .minK x, k, t, X, a, F, n, h => by
    unfold chk at h
    obtain ⟨h0, h⟩ := bool2 h
    cases t with
    | false => exact .plain rfl (n.ext _ _ h)
    | true => cases h0
  | .lc elt (.mk tg it ifs) own, k, t, X, a, F, n, h => by
    unfold chk at h
    generalize hs : strip a = b at h
    refine Res.strip ?_
    rw [hs]
    obtain ⟨hp, h⟩ := bool2 h
    split at h
    · obtain ⟨h, h8⟩ := bool2 h
      obtain ⟨h, h7⟩ := bool2 h
      obtain ⟨h, h6⟩ := bool2 h
      obtain ⟨h, h5⟩ := bool2 h
      obtain ⟨h, h4⟩ := bool2 h
      obtain ⟨h1, h2, h3⟩ := bool3 h
      exact .plain hp (lc_ok F n h1 h2 (chkI_ok it k X _ _ F n h3) h4 (fun X' F' n' => chkIf_ok ifs (k.blk _) X' _ F' n' h5) (fun X' F' n' => (chk_ok elt (k.blk _) false X' _ F' n' h6).val rfl) h7 h8)
    · cases h
  | .lc2 e g1 g2 own, k, t, X, a, F, n, h => by
    unfold chk at h
    obtain ⟨h0, h⟩ := bool2 h
    cases t with
    | false => exact .plain rfl (n.ext _ _ h)
    | true => cases h0
  | .frz i, k, t, X, a, F, n, h => by
    unfold chk at h
    generalize hs : strip a = b at h
    refine Res.strip ?_
    rw [hs]
    obtain ⟨hp, h⟩ := bool2 h
    split at h
    · obtain ⟨h1, h2, h3, h4⟩ := nmB_of n h
      exact .plain hp (pe_frzW (pe_v h1 h2 h3 h4))
    · cases h
theorem chkEs_ok : ∀ (e : Es) (k : Ck) (X : Cx) (as : List Expr), Fx C L nm par ini kr call X → Nm C call L nm par ini kr k X → chkEs k e as = true → PA X as (tA C L (evEs call e))
  | .nil, k, X, [], F, n, h => pa_nilW
  | .nil, k, X, _ :: _, F, n, h => by unfold chkEs at h; cases h
  | .cons e r, k, X, [], F, n, h => by unfold chkEs at h; cases h
  | .cons e r, k, X, a :: as, F, n, h => by
    unfold chkEs at h
    obtain ⟨h1, h2, h3⟩ := bool3 h
    exact pa_consW ((chk_ok e k false X a F n h2).val rfl) (chkEs_ok r k X as F n h3) (star_of h1)
  | .star e r, k, X, [], F, n, h => by unfold chkEs at h; cases h
  | .star e r, k, X, a :: as, F, n, h => by
    cases a with
    | Starred a' p =>
      unfold chkEs at h
      obtain ⟨h1, h2⟩ := bool2 h
      exact pa_starW F.hK ((chk_ok e k false X a' F n h1).val rfl) (chkEs_ok r k X as F n h2) rfl
    | _ => unfold chkEs at h; cases h
theorem chkKw_ok : ∀ (e : Es) (k : Ck) (X : Cx) (as : List Keyword), Fx C L nm par ini kr call X → Nm C call L nm par ini kr k X → chkKw k e as = true → PK X as (tA C L (evEs call e))
  | .nil, k, X, [], F, n, h => pk_nilW
  | .nil, k, X, _ :: _, F, n, h => by unfold chkKw at h; cases h
  | .cons e r, k, X, [], F, n, h => by unfold chkKw at h; cases h
  | .cons e r, k, X, ⟨nm', a, p⟩ :: as, F, n, h => by
    unfold chkKw at h
    obtain ⟨h1, h2⟩ := bool2 h
    exact pk_consW ((chk_ok e k false X a F n h1).val rfl) (chkKw_ok r k X as F n h2)
  | .star e r, k, X, as, F, n, h => by
    unfold chkKw at h
    cases as <;> cases h
theorem chkO_ok : ∀ (e : Eo) (k : Ck) (X : Cx) (o : Option Expr), Fx C L nm par ini kr call X → Nm C call L nm par ini kr k X → chkO k e o = true → PO X o (tO C L (evO call e))
  | .no, k, X, none, F, n, h => po_noneW
  | .no, k, X, some _, F, n, h => by unfold chkO at h; cases h
  | .so e, k, X, none, F, n, h => by unfold chkO at h; cases h
  | .so e, k, X, some a, F, n, h => by
    unfold chkO at h
    exact po_someW ((chk_ok e k false X a F n h).val rfl)
theorem chkIf_ok : ∀ (e : Eo) (k : Ck) (X : Cx) (as : List Expr), Fx C L nm par ini kr call X → Nm C call L nm par ini kr k X → chkIf k e as = true → PTs X as (tT C L (evO' call e))
  | .no, k, X, [], F, n, h => pts_nilW
  | .no, k, X, _ :: _, F, n, h => by unfold chkIf at h; cases h
  | .so e, k, X, [], F, n, h => by unfold chkIf at h; cases h
  | .so e, k, X, [a], F, n, h => by
    unfold chkIf at h
    exact pts_oneW ((chk_ok e k true X a F n h).tst rfl)
  | .so e, k, X, _ :: _ :: _, F, n, h => by unfold chkIf at h; cases h
theorem chkI_ok : ∀ (e : It) (k : Ck) (X : Cx) (tg a : Expr), Fx C L nm par ini kr call X → Nm C call L nm par ini kr k X → chkI k e tg a = true → PI X tg a (tI C L (evI call e))
  | .e x, k, X, tg, a, F, n, h => by
    unfold chkI at h
    exact pi_eW F.hK ((chk_ok x k false X a F n h).val rfl)
  | .r1 x, k, X, tg, a, F, n, h => by
    unfold chkI at h
    split at h
    · obtain ⟨h, h4⟩ := bool2 h
      obtain ⟨h1, h2, h3⟩ := bool3 h
      have h1 := of_decide_eq_true h1
      subst h1
      exact pi_r1W (n.gl h2) (F.bm _ (by decide)) ((chk_ok x k false X _ F n h4).val rfl) h3
    · cases h
  | .r2 x y, k, X, tg, a, F, n, h => by
    unfold chkI at h
    split at h
    · obtain ⟨h, h6⟩ := bool2 h
      obtain ⟨h, h5⟩ := bool2 h
      obtain ⟨h, h4⟩ := bool2 h
      obtain ⟨h1, h2, h3⟩ := bool3 h
      have h1 := of_decide_eq_true h1
      subst h1
      exact pi_r2W (n.gl h2) (F.bm _ (by decide)) ((chk_ok x k false X _ F n h5).val rfl) ((chk_ok y k false X _ F n h6).val rfl) h3 h4
    · cases h
  | .zip x y, k, X, tg, a, F, n, h => by
    unfold chkI at h
    split at h
    · obtain ⟨h, h7⟩ := bool2 h
      obtain ⟨h, h6⟩ := bool2 h
      obtain ⟨h, h5⟩ := bool2 h
      obtain ⟨h, h4⟩ := bool2 h
      obtain ⟨h1, h2, h3⟩ := bool3 h
      have h1 := of_decide_eq_true h1
      subst h1
      cases tg with
      | Tuple es kk tp => exact pi_zipW F.hK (n.gl h2) (F.bm _ (by decide)) ((chk_ok x k false X _ F n h5).val rfl) ((chk_ok y k false X _ F n h6).val rfl) h3 h4
      | _ => cases h7
    · cases h
  | .enum x, k, X, tg, a, F, n, h => by
    unfold chkI at h
    split at h
    · obtain ⟨h, h5⟩ := bool2 h
      obtain ⟨h, h4⟩ := bool2 h
      obtain ⟨h1, h2, h3⟩ := bool3 h
      have h1 := of_decide_eq_true h1
      subst h1
      cases tg with
      | Tuple es kk tp => exact pi_enumW F.hK (n.gl h2) (F.bm _ (by decide)) ((chk_ok x k false X _ F n h4).val rfl) h3
      | _ => cases h5
    · cases h
end
end
end RW
set_option Elab.async false
set_option linter.all false
set_option maxRecDepth 100000
set_option maxHeartbeats 8000000
namespace RW
open PySem PySem.W PyProof.Rows L2
section
variable {C : DC} {L : Clo} {nm : Nat → Option Str} {par : Nat → List Str} {ini : Nat} {kr : Nat → Bool} {call : Call} {X : Cx} {k : Ck} {m : Env1 → Sto → Option (W × Sto)} {t : Bool} {a : Expr}
theorem sw_of {env : Env} (hk : env.scope.kind = .function) (hs : env.scope = k.sc) {v tg : Expr} {l : Nat} (h : (notLc v || isLc v) = true) : swapsWithSole [tg] v l env = pure (swB k tg v) := by
  show swapsWith v (some tg) l env = _
  have hb : env.blockKind = .function := by unfold Env.blockKind; rw [hk]; rfl
  cases v with
  | ListComp elt gs scope lpos =>
    cases tg with
    | Name y py =>
      unfold swapsWith swB
      simp only [hb, Expr.pos]
      rw [← hs]
      show (pure (_ && ((env.scope.names.lookup y) == some NameKind.local) && _ && _) : Sem Bool) = _
      have e : ((env.scope.names.lookup y) == some NameKind.local) = decide (env.scope.names.lookup y = some NameKind.local) := by
        cases env.scope.names.lookup y with
        | none => rfl
        | some q => cases q <;> rfl
      rw [e]
      rfl
    | _ => rfl
  | _ => first | exact sw_none rfl | (cases h; done)
theorem swapF_of {env : Env} (hk : env.scope.kind = .function) {ts vs : List Expr} {k1 k2 : Nat} {p1 p2 : Pos} {r : Option (List Str)} (h : swapF env.scope.names ts vs = some r) : swappedStores [.Tuple ts k1 p1] (.Tuple vs k2 p2) env = pure r := by
  have hb : env.blockKind = .function := by unfold Env.blockKind; rw [hk]; rfl
  have hst : ∀ vs : List Expr, (vs.any fun | .Starred .. => true | _ => false) = vs.any isStarB := fun vs => by
    congr 1
  unfold swapF at h
  unfold swappedStores
  simp only [hb, hst]
  by_cases c1 : (!(ts.length == 2 || ts.length == 3) || vs.length != ts.length) = true
  · rw [if_pos c1] at h
    cases h
    rw [if_pos (by rw [c1]; rfl)]
  · rw [if_neg c1] at h
    rw [if_neg (by simpa using c1)]
    by_cases c2 : vs.any isStarB = true
    · rw [if_pos c2] at h
      cases h
      exact if_pos ((hst vs).trans c2)
    · rw [if_neg c2] at h
      refine (if_neg fun z => c2 ((hst vs).symm.trans z)).trans ?_
      dsimp only [] at h
      split at h
      · rename_i c3
        cases h
        exact if_pos c3
      · rename_i c3
        refine (if_neg c3).trans ?_
        split at h
        · rename_i c4
          cases h
          exact if_pos c4
        · rename_i c4
          refine (if_neg c4).trans ?_
          split at h
          · cases h
          · rename_i c5
            refine (if_neg c5).trans ?_
            cases h
            rfl
theorem ps_lc_ok (F : Fx C L nm par ini kr call X) (n : Nm C call L nm par ini kr k X) (hk : X.env.scope.kind = .function) {tg : Tg} {own : List Nat} {mi : Env1 → Sto → Option (List D × Sto)} {mt : Env1 → Sto → Option (Bool × Sto)} {me : Env1 → Sto → Option (W × Sto)} {tg' iter elt : Expr} {ifs : List Expr} {scope : Scope} {pos py spos : Pos} {tt : Tg} {y : Str}
    (h1 : k.lcOk = true) (h2 : blkC k.N k.sc scope (own.map fun i : Nat => (k.N[i]?.getD ("" : Str), i)) = true) (hi : PI X tg' iter (tI C L mi)) (hg : chkTg (k.blk scope) tg tg' = true)
    (ht : ∀ X', Fx C L nm par ini kr call X' → Nm C call L nm par ini kr (k.blk scope) X' → PTs X' ifs (tT C L mt)) (he : ∀ X', Fx C L nm par ini kr call X' → Nm C call L nm par ini kr (k.blk scope) X' → PE X' elt (tE C L me))
    (h7 : notSet iter = true) (h8 : (tg.slots.all fun i => own.contains i) = true) (hty : chkTg k tt (.Name y py) = true) (hsw : swB k (.Name y py) (.ListComp elt [⟨tg', iter, ifs, 0⟩] scope pos) = true) :
    PS X (.Assign [.Name y py] (.ListComp elt [⟨tg', iter, ifs, 0⟩] scope pos) spos) (tS C L fun e S => bd (lcW own tg mi mt me e S) fun w S => ob (asgT e tt w) fun e => some ((.nx, e), S)) := by
  have fx : ∀ (s : Shared) (H : Hp) (A : Addr) (cl : List (Str × Addr)) (fp : List Addr), Fx C L nm par ini kr call (X.blk s H scope (compEnvC scope cl A X.env) fp) := fun s H A cl fp => F.blk s H scope _ fp fun a j cs hl => absurd hl (n.lc h1 a j cs)
  have eo : (own.map fun i : Nat => (k.N[i]?.getD ("" : Str), i)).map (·.2) = own := by
    rw [List.map_map]
    exact (List.map_congr_left fun _ _ => rfl).trans (List.map_id own)
  have ok : BlkOk X.N X.env.scope scope (own.map fun i : Nat => (k.N[i]?.getD ("" : Str), i)) := by rw [n.N, n.sc]; exact blkOk_by h2
  have hsw2 : swapsWith (.ListComp elt [⟨tg', iter, ifs, 0⟩] scope pos) (some (.Name y py)) spos.line X.env = pure true := by
    have e := sw_of (k := k) (v := .ListComp elt [⟨tg', iter, ifs, 0⟩] scope pos) (tg := .Name y py) (l := spos.line) hk n.sc rfl
    rw [hsw] at e; exact e
  cases tt with
  | nm i =>
    obtain ⟨q1, q2, q3⟩ := tgB_of n (i := i) (x := y) hty
    have hyl : X.env.scope.names.lookup y = some .local := by
      unfold swB at hsw
      rw [Bool.and_eq_true, Bool.and_eq_true] at hsw
      rw [n.sc]; exact of_decide_eq_true hsw.1.1
    have r := ps_lcW (C := C) (L := L) (i := i) F.calm F.nd q1 hyl hsw2 hi ok (fun s H A cl fp => chkTg_ok (fx s H A cl fp) (n.blk s H scope A cl fp) hg) (fun s H A cl fp => ht _ (fx s H A cl fp) (n.blk s H scope A cl fp)) (fun s H A cl fp => he _ (fx s H A cl fp) (n.blk s H scope A cl fp)) h7 (fun i hi => by
      rw [eo]
      exact List.contains_iff_mem.1 (List.all_eq_true.1 h8 i hi))
    rw [eo] at r
    exact r
  | _ => cases hty
theorem asg1_of {k : Ck} {t : Tg} {tg v : Expr} {env : Env} (h : chkTg k t tg = true) (h2 : (isName tg || !isTup v) = true) : swappedStores [tg] v env = pure none ∧ (assignEach [tg] env).map (·.2) = [assign tg env] := by
  unfold chkTg at h
  split at h
  · exact ⟨by cases v <;> rfl, rfl⟩
  · exact ⟨by cases v <;> first | rfl | (cases h2; done), rfl⟩
  · exact ⟨by cases v <;> first | rfl | (cases h2; done), rfl⟩
  · cases h
theorem sw_tup {v : Expr} {ts : List Expr} {kt : Nat} {pt : Pos} {env : Env} (h : (!isTup v) = true) : swappedStores [.Tuple ts kt pt] v env = pure none := by
  cases v <;> first | rfl | (cases h; done)
theorem names_len {k : Ck} (n : Nm C call L nm par ini kr k X) {l : List Nat} {es : List Expr} (h : namesB k l es = true) : (assignEach es X.env).length = l.length ∧ (assignEach es X.env).findIdx? (·.1) = none := by
  induction l generalizing es with
  | nil => cases es with
    | nil => exact ⟨rfl, rfl⟩
    | cons e es => cases e <;> cases h
  | cons i l ih => cases es with
    | nil => cases h
    | cons e es =>
      cases e with
      | Name x p =>
        have h : (tgB k i x && namesB k l es) = true := h
        obtain ⟨h1, h2⟩ := ih (bool2 h).2
        refine ⟨?_, ?_⟩
        · show (assignEach es X.env).length + 1 = l.length + 1
          rw [h1]
        · show List.findIdx? (·.1) ((false, _) :: assignEach es X.env) = none
          rw [List.findIdx?_cons]
          simp [h2]
      | _ => cases h
variable {fu : Option Nat}
mutual
theorem chkT_ok : ∀ (t : T) (k : Ck) (X : Cx) (s : Stmt), Fx C L nm par ini kr call X → Nm C call L nm par ini kr k X → X.env.scope.kind = .function → PassesOwn (model X.prog X.w) X.A X.env X.xe → chkT k t s = true → PS X s (tS C L (exT call fu t))
  | .asg t e, k, X, s, F, n, hk, hx, h => by
    unfold chkT at h
    split at h
    · rename_i tg v p
      obtain ⟨h, h4⟩ := bool2 h
      obtain ⟨h1, h2, h3⟩ := bool3 h
      obtain ⟨g1, g2⟩ := asg1_of (env := X.env) h1 h3
      split at h4
      · rename_i hsw
        exact ps_asgW ((chk_ok e k false X v F n h2).val rfl) (chkTg_ok F n h1) ((sw_of hk n.sc h4).trans (by rw [hsw])) g1 g2
      · rename_i hsw
        cases e with
        | lc elt g own =>
          cases v with
          | ListComp elt' gens scope pos =>
            cases g with
            | mk tgx it ifs =>
              unfold chk at h2
              obtain ⟨_, h2⟩ := bool2 h2
              unfold strip at h2
              dsimp only [] at h2
              split at h2
              · rename_i hv
                cases hv
                obtain ⟨h, h8⟩ := bool2 h2
                obtain ⟨h, h7⟩ := bool2 h
                obtain ⟨h, h6⟩ := bool2 h
                obtain ⟨h, h5⟩ := bool2 h
                obtain ⟨h, h4⟩ := bool2 h
                obtain ⟨j1, j2, j3⟩ := bool3 h
                cases tg with
                | Name y py => exact ps_lc_ok F n hk j1 j2 (chkI_ok it k X _ _ F n j3) h4 (fun X' F' n' => chkIf_ok ifs (k.blk _) X' _ F' n' h5) (fun X' F' n' => (chk_ok elt (k.blk _) false X' _ F' n' h6).val rfl) h7 h8 h1 hsw
                | _ => cases hsw
              · cases h2
          | _ => cases hsw
        | _ => cases h4
    · cases h
  | .par l es, k, X, s, F, n, hk, hx, h => by
    unfold chkT at h
    split at h
    · rename_i ts k1 p1 vs k2 p2 p
      obtain ⟨h, h5⟩ := bool2 h
      obtain ⟨h, h4⟩ := bool2 h
      obtain ⟨h1, h2, h3⟩ := bool3 h
      have ha := chkEs_ok es k X vs F n h2
      obtain ⟨l1, l2⟩ := names_len n h1
      split at h5
      · rename_i hw
        obtain ⟨q1, q2⟩ := namesB_of n h1
        obtain ⟨g1, g2, g3⟩ := pgs_names F.nd q2 q1
        exact ps_parWT F.hK F.calm g1 g2 g3 ha (of_decide_eq_true h4) (swapF_of hk (by rw [n.sc]; exact hw))
      · rename_i ns hw
        split at h5
        · obtain ⟨h, j4⟩ := bool2 h5
          obtain ⟨h, j3⟩ := bool2 h
          obtain ⟨j1, j2⟩ := bool2 h
          have j2 := of_decide_eq_true j2
          subst j2
          obtain ⟨m1, m2⟩ := bool2 h1
          obtain ⟨m2, _⟩ := bool2 m2
          exact ps_parW2 F.calm F.nd (tgB_of n m1).1 (tgB_of n m2).1 (of_decide_eq_true j1) (by rw [n.sc]; exact of_decide_eq_true j3) (by rw [n.sc]; exact of_decide_eq_true j4) ha (swapF_of hk (by rw [n.sc]; exact hw))
        · obtain ⟨h, j7⟩ := bool2 h5
          obtain ⟨h, j6⟩ := bool2 h
          obtain ⟨h, j5⟩ := bool2 h
          obtain ⟨h, j4⟩ := bool2 h
          obtain ⟨j1, j2, j3⟩ := bool3 h
          have j4 := of_decide_eq_true j4
          subst j4
          obtain ⟨m1, m2⟩ := bool2 h1
          obtain ⟨m2, m3⟩ := bool2 m2
          obtain ⟨m3, _⟩ := bool2 m3
          exact ps_parW3 F.calm F.nd (tgB_of n m1).1 (tgB_of n m2).1 (tgB_of n m3).1 (of_decide_eq_true j1) (of_decide_eq_true j2) (of_decide_eq_true j3) (by rw [n.sc]; exact of_decide_eq_true j5) (by rw [n.sc]; exact of_decide_eq_true j6) (by rw [n.sc]; exact of_decide_eq_true j7) ha (swapF_of hk (by rw [n.sc]; exact hw))
        · cases h5
      · cases h5
    · cases h
  | .setI a i e, k, X, s, F, n, hk, hx, h => by
    unfold chkT at h
    split at h
    · obtain ⟨h, h5⟩ := bool2 h
      obtain ⟨h, h4⟩ := bool2 h
      obtain ⟨h1, h2, h3⟩ := bool3 h
      exact ps_setIW F.hu ((chk_ok e k false X _ F n h4).val rfl) ((chk_ok a k false X _ F n h1).val rfl) ((chk_ok i k false X _ F n h2).val rfl) h5 (unas h3)
    · cases h
  | .setIT a i j e, k, X, s, F, n, hk, hx, h => by
    unfold chkT at h
    split at h
    · obtain ⟨h, h7⟩ := bool2 h
      obtain ⟨h, h6⟩ := bool2 h
      obtain ⟨h, h5⟩ := bool2 h
      obtain ⟨h, h4⟩ := bool2 h
      obtain ⟨h1, h2, h3⟩ := bool3 h
      obtain ⟨q1, q2, q3⟩ := tgB_of n h4
      exact ps_setITW F.hK F.calm F.nd q1 q2 q3 F.hu ((chk_ok e k false X _ F n h5).val rfl) ((chk_ok a k false X _ F n h1).val rfl) ((chk_ok i k false X _ F n h2).val rfl) h6 (sw_tup h7) (unas h3)
    · cases h
  | .setF a f e, k, X, s, F, n, hk, hx, h => by
    unfold chkT at h
    split at h
    · obtain ⟨h, h5⟩ := bool2 h
      obtain ⟨h, h4⟩ := bool2 h
      obtain ⟨h1, h2, h3⟩ := bool3 h
      have h1 := of_decide_eq_true h1
      have h2 := of_decide_eq_true h2
      subst h1
      subst h2
      exact ps_setFW F.hK F.ok F.noat ((chk_ok a k false X _ F n h3).val rfl) ((chk_ok e k false X _ F n h4).val rfl) h5
    · cases h
  | .ex e, k, X, s, F, n, hk, hx, h => by
    unfold chkT at h
    split at h
    · obtain ⟨h1, h2⟩ := bool2 h
      exact ps_exW ((chk_ok e k false X _ F n h1).val rfl) h2
    · cases h
  | .ret e, k, X, s, F, n, hk, hx, h => by
    unfold chkT at h
    split at h
    · exact ps_retW ((chk_ok e k false X _ F n h).val rfl)
    · cases h
  | .retN, k, X, s, F, n, hk, hx, h => by
    unfold chkT at h
    split at h
    · exact ps_retNW
    · cases h
  | .ite c a b, k, X, s, F, n, hk, hx, h => by
    unfold chkT at h
    split at h
    · obtain ⟨h1, h2, h3⟩ := bool3 h
      exact ps_ifW ((chk_ok c k true X _ F n h1).tst rfl) (chkTs_ok a k X _ F n hk hx h2) (chkTs_ok b k X _ F n hk hx h3)
    · cases h
  | .for t it b, k, X, s, F, n, hk, hx, h => by
    unfold chkT at h
    split at h
    · obtain ⟨h, h4⟩ := bool2 h
      obtain ⟨h1, h2, h3⟩ := bool3 h
      exact ps_forW hx F.calm (chkI_ok it k X _ _ F n h2) (chkTg_ok F n h1) (chkTs_ok b k X _ F n hk hx h4) h3
    · cases h
  | .whl c b, k, X, s, F, n, hk, hx, h => by
    unfold chkT at h
    split at h
    · obtain ⟨h1, h2⟩ := bool2 h
      exact ps_whileW hx ((chk_ok c k true X _ F n h1).tst rfl) (chkTs_ok b k X _ F n hk hx h2)
    · cases h
  | .pass, k, X, s, F, n, hk, hx, h => by
    unfold chkT at h
    split at h
    · exact ps_passW
    · cases h
  | .never, k, X, s, F, n, hk, hx, h => ps_neverW
theorem chkTs_ok : ∀ (t : Ts) (k : Ck) (X : Cx) (s : List Stmt), Fx C L nm par ini kr call X → Nm C call L nm par ini kr k X → X.env.scope.kind = .function → PassesOwn (model X.prog X.w) X.A X.env X.xe → chkTs k t s = true → PSs X s (tS C L (exTs call fu t))
  | .nil, k, X, [], F, n, hk, hx, h => pss_nilW
  | .nil, k, X, _ :: _, F, n, hk, hx, h => by unfold chkTs at h; cases h
  | .cons t r, k, X, [], F, n, hk, hx, h => by unfold chkTs at h; cases h
  | .cons t r, k, X, s :: ss, F, n, hk, hx, h => by
    unfold chkTs at h
    obtain ⟨h1, h2⟩ := bool2 h
    exact pss_consW (chkT_ok t k X s F n hk hx h1) (chkTs_ok r k X ss F n hk hx h2)
end
end
end RW
set_option Elab.async false
set_option linter.all false
set_option maxRecDepth 100000
set_option maxHeartbeats 4000000
namespace RW
open PySem PySem.W PyProof.Rows L2
/-! defs -/
section
variable {C : DC} {L : Clo} {nm : Nat → Option Str} {par : Nat → List Str} {ini : Nat} {kr : Nat → Bool} {call : Call} {fu : Option Nat}
theorem hand_ok {fd : FnD} {O0 O : Ow} {φ0 φ : List Addr} {H0 H : Hp} {S0 S S' : Sto} {v : V} {w w' : W} (sm0 : Sim C O0 φ0 H0 S0) (sm : Sim C O φ H S) (n : Nxt O0 φ0 H0 O φ H) (wo : WOk C L O φ H v w) (e : handBack fd S0.length w S = some (w', S')) :
    ∃ O' φ', Nxt O0 φ0 H0 O' φ' H ∧ Sim C O' φ' H S' ∧ WOk C L O' φ' H v w' := by
  unfold handBack at e
  split at e
  · cases e
    exact ⟨O, φ, n, sm, wo⟩
  · refine ⟨O.drop (φ.drop S0.length), φ.take S0.length, Nxt.drop sm0 sm n, ?_⟩
    split at e
    · cases e
      exact ⟨sm.drop _, WOk.lessD (fun a h => h.1) wo⟩
    · rename_i i
      split at e
      · rename_i hi
        obtain ⟨a, ea, rfl⟩ := wo
        split at e
        · rename_i xs es
          cases e
          exact ⟨sm.drop _, sm.hand hi ea (.inl ⟨xs, es, rfl⟩)⟩
        · rename_i t kvs es
          split at e
          · cases e
            exact ⟨sm.drop _, sm.hand hi ea (.inr ⟨t, kvs, es, rfl⟩)⟩
          · cases e
        · cases e
      · cases e
    · cases e
theorem WsOk.len {O : Ow} {φ : List Addr} {H : Hp} : ∀ {vs : List V} {ws : List W}, WsOk C L O φ H vs ws → vs.length = ws.length
  | [], [], _ => rfl
  | v :: vs, w :: ws, h => by rw [List.length_cons, List.length_cons, WsOk.len (vs := vs) (ws := ws) h.2]
  | [], _ :: _, h => h.elim
  | _ :: _, [], h => h.elim
theorem WsOk.get {O : Ow} {φ : List Addr} {H : Hp} : ∀ {vs : List V} {ws : List W} {i : Nat} {w : W}, WsOk C L O φ H vs ws → ws[i]? = some w → ∃ v, vs[i]? = some v ∧ WOk C L O φ H v w
  | [], [], _, _, _, e => by simp at e
  | v :: vs, w' :: ws, 0, w, h, e => by
    simp only [List.getElem?_cons_zero, Option.some.injEq] at e
    subst e
    exact ⟨v, rfl, h.1⟩
  | v :: vs, w' :: ws, i + 1, w, h, e => by
    obtain ⟨v', e1, e2⟩ := WsOk.get (vs := vs) (ws := ws) (i := i) h.2 (by simpa using e)
    exact ⟨v', by simpa using e1, e2⟩
  | [], _ :: _, _, _, h, _ => h.elim
  | _ :: _, [], _, _, h, _ => h.elim
theorem start_ok {O : Ow} {φ : List Addr} {H : Hp} {N : List Str} {vs : List V} {ws : List W} (h : WsOk C L O φ H vs ws) : EnvOk C L O φ H (start N vs) (ws.map some ++ List.replicate (N.length - ws.length) none) := by
  have hl := h.len
  refine ⟨?_, fun i w e => ?_⟩
  · unfold L2.start
    rw [List.length_append, List.length_append, List.length_map, List.length_map, List.length_replicate, List.length_replicate, hl]
  · have hi : i < ws.length := by
      refine Nat.lt_of_not_le fun z => ?_
      unfold slot at e
      rw [List.getElem?_append_right (by simpa using z), List.getElem?_replicate] at e
      by_cases q : i - (List.map some ws).length < N.length - ws.length
      · rw [if_pos q] at e; cases e
      · rw [if_neg q] at e; cases e
    have e1 : ws[i]? = some w := by
      unfold slot at e
      rw [List.getElem?_append_left (by simpa using hi), List.getElem?_map] at e
      cases hw : ws[i]? with
      | none => rw [hw] at e; simp at e
      | some w' => rw [hw] at e; simpa using e
    obtain ⟨v, e2, wo⟩ := h.get e1
    refine ⟨v, ?_, wo⟩
    unfold L2.start
    have hv : i < vs.length := by rw [hl]; exact hi
    rw [List.getElem?_append_left (by simpa using hv), List.getElem?_map, e2]
    rfl
variable {P : Program} {w : World} {K : PySem.W.Frag} {mg : Str → Option Value} {base : Heap}
/-- a def of the text, by the check of its body -/
theorem fn_runE {x qual : Str} {st : Stmt} {f : Addr} {ps : List Str} {k : Nat} {fd : FnD} {ck : Ck} {oc dV kV doc pm cdv ct : Value} {od an : Option Addr} {osl : Array (Option Value)}
    (lk : K.lookup f = some ⟨oc, od, .func (PySem.W.fnOf x qual (C8.fnArgs st) (C8.fnBody st) (C8.fnScope st) dV kV doc pm an cdv ct), osl⟩) (hcd : PySem.W.codeIn K cdv qual = true) (S : FnScope fd.N ps (C8.fnScope st)) (hl : ps.length = fd.np)
    (hck : chkTs ck fd.body (C8.fnBody st) = true) (hsc : ck.sc = C8.fnScope st) (hN : ck.N = fd.N) (hfb : ck.fnb = fun _ => true) (hnm : ck.nm = nm) (hpar : ck.par = par) (hini : ck.ini = ini) (hkr : ck.kr = kr) (hlc : ck.lcOk = true → ∀ a j cs, ¬ L a j cs)
    (hx : ∀ X : Cx, X.K = K → X.mg = mg → X.prog = P → X.w = w → X.base = base → X.calm = true → X.N.Nodup → Room k X.A → Fx C L nm par ini kr call X)
    (hext : ∀ (A : Around) (outer : List Env) (s : Shared) (H : Hp) (E : XK), Room k (A.deeper (envOfC qual (C8.fnScope st) s.heap.objs.size f cdv)) → ∀ e a, ck.ext e a = true → PE (cxOf C8.CX0 P w K mg base fd.N qual (C8.fnScope st) f cdv A outer s H E).nox a (tE C L (evE call e)))
    (hgv : ∀ x y, x ∈ ck.gvs → GV x = some y → ∃ v u, mg x = some u ∧ RelV v u ∧ ∀ O H, Dn C O H v y) :
    FnOk P w K mg base C8.CX0 (k + 1) f (PySem.W.fnOf x qual (C8.fnArgs st) (C8.fnBody st) (C8.fnScope st) dV kV doc pm an cdv ct) ps (spC C L (runF call fu fd)) := by
  refine fn_of lk hcd S (fun vs H Q E h => ?_) fun A outer s H vs Q E hrm h => ?_
  · obtain ⟨O, φ, St, ws, w', S', sm, wo, e, _⟩ := h
    unfold runF at e
    split at e
    · rename_i hw
      rw [wo.len, hw, hl]
    · cases e
  · obtain ⟨O, φ, St, ws, w', S', sm, wo, e, h⟩ := h
    unfold runF at e
    split at e
    · rename_i hw
      obtain ⟨p, S1, e1, e⟩ := bd_eq e
      obtain ⟨fl, env'⟩ := p
      have en := start_ok (N := fd.N) wo
      rw [hw] at en
      have FX : Fx C L nm par ini kr call (cxOf C8.CX0 P w K mg base fd.N qual (C8.fnScope st) f cdv A outer s H E).nox := hx _ rfl rfl rfl rfl rfl rfl S.nd hrm
      have NM : Nm C call L nm par ini kr ck (cxOf C8.CX0 P w K mg base fd.N qual (C8.fnScope st) f cdv A outer s H E).nox := ⟨hnm, hpar, hini, hkr, hlc, hN.symm, hsc.symm, hfb.symm, (hext A outer s H E hrm), hgv⟩
      refine ⟨_, (chkTs_ok (fu := fu) fd.body ck _ _ FX NM S.kind (by exact PassesOwn.never) hck).nox, O, φ, St, _, fl, env', S1, ⟨sm, en⟩, e1, fun σ' O' φ' H' _ n sm1 => ?_⟩
      cases fl with
      | nx =>
        intro _
        obtain ⟨O2, φ2, n2, sm2, wo2⟩ := hand_ok (L := L) sm sm1 n (show WOk C L O' φ' H' .non (.d .none) from .non) e
        exact h _ _ _ _ n2 sm2 wo2
      | rt w2 =>
        intro v wv
        obtain ⟨O2, φ2, n2, sm2, wo2⟩ := hand_ok sm sm1 n wv e
        exact h _ _ _ _ n2 sm2 wo2
      | bk => cases e
      | ct => cases e
    · cases e
end
end RW
set_option Elab.async false
set_option linter.all false
set_option maxRecDepth 100000
set_option maxHeartbeats 4000000
namespace RW
open PySem PySem.W PyProof.Rows L2
/-! ### lambdas -/
theorem among_more {pos : Pos} {cv : Value} (l more : List Value) (h : codeAmong pos l = some cv) : codeAmong pos (l ++ more) = some cv := by
  fun_induction TriplesOk l with
  | case1 => simp [codeAmong] at h
  | case2 a t b u x rest ih =>
    simp only [List.cons_append, codeAmong] at h ⊢
    split at h
    · rename_i q
      rw [if_pos q]; exact h
    · rename_i q
      rw [if_neg q]; exact ih h
  | case3 l h1 h2 =>
    exfalso
    match l, h, h1, h2 with
    | [], h, h1, _ => exact h1 rfl
    | .int a t :: .int b u :: x :: r, _, _, h2 => exact h2 _ _ _ _ _ _ rfl
    | [.int _ _], h, _, _ => simp [codeAmong] at h
    | [.int _ _, _], h, _, _ => simp [codeAmong] at h
    | _ :: _, h, _, _ => simp [codeAmong] at h
/-- the heap behind the making of a lambda -/
def LamNext (H H1 : Hp) (P c' : Addr) (q : Str) (pos : Pos) : Prop :=
  (∃ ps, H1 P = some (.tbl ps) ∧ codeAmong pos ps.toList = some (.ref c')) ∧ (H1 = H ∨ ∃ ps more, H P = some (.tbl ps) ∧ H c' = none ∧ H1 = upd (upd H P (.tbl (ps ++ more))) c' (LamX.CodeO c' q))
section
variable {X : Cx} {pins : List (Addr × Obj)} {σ : L2.St} {H : Hp} {s : Shared}
theorem lam_make3 {T : List (Addr × Str)} {c P : Addr} {params : Arguments} {body : Expr} {scope : Scope} {pos : Pos} {E : Value → Shared → Prop} {Q : Value → Shared → Prop} (I : Inv X pins σ H s) (TB : LamX.TabB X.base X.mg c P) (hcode : X.env.code = .ref c)
    (hm : (P, X.env.qual ++ "<lambda>") ∈ T) (hu : ∀ p ∈ T, p.1 = P → p.2 = X.env.qual ++ "<lambda>") (hT : LamX.Tabs T H) (hdef : defaultsOf params X.env = ([], [])) (hfree : ∀ y ∈ scope.names, y.2 = .free → ∃ c, X.env.cells.lookup y.1 = some c)
    (h : ∀ (f c' : Addr) (pm ctv : Value) (H1 : Hp) (s' : Shared), Inv X pins σ H1 s' → LamNext H H1 P c' (X.env.qual ++ "<lambda>") pos → LamX.Tabs T H1 →
      s'.heap.get? f = some (PySem.W.kla_obj "<lambda>" (X.env.qual ++ "<lambda>") params body scope (cloFrom X.env.cells scope.names []) pm c' ctv) → H1 f = none → f ∉ frs X.stack → Q (.ref f) s') :
    wpAny (model X.prog X.w) X.A (eval (.Lambda params body scope pos) X.env) Q E s := by
  obtain ⟨ps, hP, ht, ha⟩ := hT _ hm
  refine PySem.W.kla_eval hdef ?_
  have bP : s.heap.BuiltinsAt X.mg P := TB.bm.keeps I.bk
  have hP' : s.heap.get? P = some { cls := .none, data := .fields ps } := I.hok P _ hP
  have nofr : ∀ f, s.heap.objs.size ≤ f → f ∉ frs X.stack := fun f hf z => by
    rcases List.mem_cons.mp (I.stkSub _ z) with e | e
    · have h1 := I.lt
      rw [← e] at h1
      exact Nat.lt_irrefl _ (Nat.lt_of_lt_of_le h1 hf)
    · exact I.nofs hf e
  cases hc : codeAmong pos ps.toList with
  | none =>
    refine PySem.W.kla_makeFunction (mg := X.mg) (c := c) (P := P) (ps := ps) (closure_ok hfree) I.ok.glob (I.mod.glob.keeps I.bk) hcode (TB.code.keeps I.bk) hP' ht hc TB.gP bP fun c' ctv h' tk hx hge hlt hrec htb => ?_
    obtain ⟨c2, oc, vs, t, e2, hoc, hd, hv⟩ := hrec
    cases e2
    have hsz : s.heap.objs.size ≤ h'.objs.size := Nat.le_trans hge (Nat.le_of_lt hlt)
    have nC : H c' = none := I.hok.fresh hge
    have I1 := LamX.inv_table (t' := tk) (more := #[rawInt pos.line, rawInt pos.col, .ref c']) (h' := h'.push (PySem.W.kla_obj "<lambda>" (X.env.qual ++ "<lambda>") params body scope (cloFrom X.env.cells scope.names []) ((X.mg "__name__").getD .none) c' ctv)) I hP
      (fun b o hb e => Heap.get?_push_of_some _ (hx b o hb e)) (Heap.get?_push_of_some _ htb) hge ⟨oc, vs, t, Heap.get?_push_of_some _ hoc, hd, hv⟩
    have hE : LamX.ExtN H (upd (upd H P (.tbl (ps ++ #[rawInt pos.line, rawInt pos.col, .ref c']))) c' (LamX.CodeO c' (X.env.qual ++ "<lambda>"))) := fun b o e n => by
      rw [upd_ne (ne_of_none e nC), upd_ne (fun z => n ps (Option.some.inj (e.symm.trans (by rw [z]; exact hP))))]
      exact e
    have eL : (ps ++ #[rawInt pos.line, rawInt pos.col, .ref c']).toList = ps.toList ++ [rawInt pos.line, rawInt pos.col, .ref c'] := by simp
    have atP : upd (upd H P (.tbl (ps ++ #[rawInt pos.line, rawInt pos.col, .ref c']))) c' (LamX.CodeO c' (X.env.qual ++ "<lambda>")) P = some (.tbl (ps ++ #[rawInt pos.line, rawInt pos.col, .ref c'])) := by rw [upd_ne (ne_of_none hP nC), upd_same]
    refine h h'.objs.size c' ((X.mg "__name__").getD .none) ctv _ _ I1 ⟨⟨_, atP, by rw [eL]; exact codeAmong_snoc _ ht hc⟩, .inr ⟨ps, _, hP, nC, rfl⟩⟩ (fun p hp => ?_) (Heap.get?_push_size _ rfl) ?_ (nofr _ hsz)
    · by_cases hb : p.1 = P
      · rw [hu p hp hb, hb]
        refine ⟨_, atP, by rw [eL]; exact PySem.TriplesOk_snoc _ _ _ _ ht, fun p' cv hcv => ?_⟩
        rw [eL] at hcv
        rcases LamX.among_app _ ht hcv with z | z
        · obtain ⟨c0, e1, e2⟩ := ha p' cv z
          exact ⟨c0, e1, hE _ _ e2 LamX.codeO_ne⟩
        · exact ⟨c', z, upd_same⟩
      · obtain ⟨ps', a1, a2, a3⟩ := hT p hp
        refine ⟨ps', by rw [upd_ne (ne_of_none a1 nC), upd_ne hb]; exact a1, a2, fun p' cv hcv => ?_⟩
        obtain ⟨c0, e1, e2⟩ := a3 p' cv hcv
        exact ⟨c0, e1, hE _ _ e2 LamX.codeO_ne⟩
    · have n1 : h'.objs.size ≠ c' := Nat.ne_of_gt hlt
      have n2 : h'.objs.size ≠ P := Nat.ne_of_gt (Nat.lt_of_lt_of_le (Heap.lt_size hP') hsz)
      rw [upd_ne n1, upd_ne n2]
      exact I.hok.fresh hsz
  | some cv =>
    obtain ⟨c', e, hco⟩ := ha pos cv hc
    subst e
    refine PySem.W.kla_makeFunctionHit (mg := X.mg) (c := c) (P := P) (ps := ps) (closure_ok hfree) I.ok.glob (I.mod.glob.keeps I.bk) hcode (TB.code.keeps I.bk) hP' ht hc bP fun ctv h' tk hx hsz => ?_
    have I1 : Inv X pins σ H { s with heap := h'.push (PySem.W.kla_obj "<lambda>" (X.env.qual ++ "<lambda>") params body scope (cloFrom X.env.cells scope.names []) ((X.mg "__name__").getD .none) c' ctv), toks := tk } := I.kept fun b o e => Heap.get?_push_of_some _ (hx b o e)
    exact h h'.objs.size c' ((X.mg "__name__").getD .none) ctv H _ I1 ⟨⟨ps, hP, hc⟩, .inl rfl⟩ hT (Heap.get?_push_size _ rfl) (I.hok.fresh hsz) (nofr _ hsz)
end
/-- .. it keeps the store -/
theorem lam_next {C : DC} {O : Ow} {φ : List Addr} {H H1 : Hp} {S : Sto} {P c' : Addr} {q : Str} {pos : Pos} (sm : Sim C O φ H S) (n : LamNext H H1 P c' q pos) (T1 : LamX.Tabs C.T H1) : Nxt O φ H O φ H1 ∧ Sim C O φ H1 S := by
  rcases n.2 with e | ⟨ps, more, hP, hc, e⟩
  · subst e; exact ⟨.refl, sm⟩
  · have nc : ∀ b u, H b = some u → b ≠ c' := fun b u e => ne_of_none e hc
    have at_ : ∀ b u, H b = some u → (∀ ps, u ≠ .tbl ps) → H1 b = some u := fun b u eb t => by
      have hb : b ≠ P := fun z => by subst z; rw [hP] at eb; cases eb; exact t ps rfl
      rw [e, upd_ne (nc b u eb), upd_ne hb]; exact eb
    have gone : ∀ b u, H b = some u → ∃ u', H1 b = some u' := fun b u eb => by
      by_cases hb : b = P
      · subst hb; exact ⟨_, by rw [e, upd_ne (nc b u eb), upd_same]⟩
      · exact ⟨u, by rw [e, upd_ne (nc b u eb), upd_ne hb]; exact eb⟩
    have nx : Nxt O φ H O φ H1 := ⟨fun b u eb _ t => at_ b u eb t, fun b h => .inl h, fun b h _ => h, gone, List.prefix_refl _, fun b h => .inl h, fun b ps' eb => by
      by_cases hb : b = P
      · subst hb
        rw [hP] at eb; cases eb
        exact ⟨more, by rw [e, upd_ne (nc b _ hP), upd_same]⟩
      · exact ⟨#[], by rw [e, upd_ne (nc b _ eb), upd_ne hb, eb]; simp⟩⟩
    refine ⟨nx, ⟨sm.len, sm.nd, fun i mo a e1 e2 => ?_, fun a h => ?_, fun a h => ?_, T1⟩⟩
    · have q := sm.at_ i mo a e1 e2
      have ob : ∀ u, H a = some u → O a → H1 a = some u := fun u eu ho => by
        obtain ⟨o, eo, _, nb, _⟩ := sm.ow a ho
        rw [eu] at eo; cases eo
        exact at_ a u eu nb
      cases mo with
      | dead => exact True.intro
      | lst xs => obtain ⟨o, vs, eh, t⟩ := q; exact ⟨o, vs, ob _ eh o, t.mono sm nx⟩
      | dct b xs => cases b <;> (obtain ⟨o, vs, eh, m, t⟩ := q; exact ⟨o, vs, ob _ eh o, m, t.mono sm nx⟩)
      | ins c fs => obtain ⟨o, A, dx, fvs, e1, eh, m, t⟩ := q; exact ⟨o, A, dx, fvs, e1, ob _ eh o, m, t.mono sm nx⟩
    · obtain ⟨u, eu, n1, n2, n3⟩ := sm.ow a h
      exact ⟨u, at_ a u eu n2, n1, n2, n3⟩
    · obtain ⟨u, eu⟩ := sm.tr a h
      exact gone a u eu
/-- a lambda's names: captured ones (slots cs of the maker), parameters -/
structure LamW (N : List Str) (sc scope : Scope) (cs : List Nat) (ps Nl : List Str) : Prop where
  kind : scope.kind = .function
  co : scope.isCoroutine = false
  gen : scope.isGenerator = false
  nocell : ∀ y ∈ scope.names, y.2 ≠ .cell
  free : ∀ y ∈ scope.names, y.2 = .free → sc.names.lookup y.1 = some .cell ∨ sc.names.lookup y.1 = some .free
  par : ∀ x ∈ ps, scope.names.lookup x = some .local
  nd : Nl.Nodup
  eq : Nl = cs.map (fun i => N[i]?.getD ("" : Str)) ++ ps
  cap : ∀ i ∈ cs, (∃ x, N[i]? = some x) ∧ scope.names.lookup (N[i]?.getD ("" : Str)) = some .free
def lamWB (N : List Str) (sc scope : Scope) (cs : List Nat) (ps Nl : List Str) : Bool :=
  decide (scope.kind = .function) && !scope.isCoroutine && !scope.isGenerator && (scope.names.all fun y => !decide (y.2 = .cell)) && (scope.names.all fun y => !decide (y.2 = .free) || decide (sc.names.lookup y.1 = some .cell) || decide (sc.names.lookup y.1 = some .free)) &&
    (ps.all fun x => decide (scope.names.lookup x = some .local)) && decide Nl.Nodup && decide (Nl = cs.map (fun i => N[i]?.getD ("" : Str)) ++ ps) && (cs.all fun i => N[i]?.isSome && decide (scope.names.lookup (N[i]?.getD ("" : Str)) = some .free))
theorem lamW_by {N : List Str} {sc scope : Scope} {cs : List Nat} {ps Nl : List Str} (h : lamWB N sc scope cs ps Nl = true) : LamW N sc scope cs ps Nl := by
  unfold lamWB at h
  simp only [Bool.and_eq_true, Bool.or_eq_true, Bool.not_eq_true', decide_eq_true_eq, decide_eq_false_iff_not, List.all_eq_true, Option.isSome_iff_exists] at h
  obtain ⟨⟨⟨⟨⟨⟨⟨⟨h1, h2⟩, h3⟩, h4⟩, h5⟩, h6⟩, h7⟩, h8⟩, h9⟩ := h
  refine ⟨h1, h2, h3, h4, fun y hy e => ?_, h6, h7, h8, h9⟩
  rcases h5 y hy with (z | z) | z
  · exact absurd e z
  · exact .inl z
  · exact .inr z
theorem LamW.has {X : Cx} {scope : Scope} {cs : List Nat} {ps Nl : List Str} (L : LamW X.N X.env.scope scope cs ps Nl) (ok : X.Ok) : ∀ y ∈ scope.names, y.2 = .free → ∃ c, X.env.cells.lookup y.1 = some c := fun y hy e => by
  rcases L.free y hy e with k | k
  · exact ok.has _ (.inl k)
  · exact ok.has _ (.inr k)
/-- the context of a lambda's body -/
def lamC (X : Cx) (A : Around) (outer : List Env) (s : Shared) (H : Hp) (scope : Scope) (f c' : Addr) (Nl : List Str) : Cx where
  prog := X.prog
  w := X.w
  K := X.K
  mg := X.mg
  base := X.base
  A := A.deeper (LamX.lamEnv X scope s.heap.objs.size f c')
  N := Nl
  s_0 := s
  H_0 := H
  env := LamX.lamEnv X scope s.heap.objs.size f c'
  outer := outer
  stack := LamX.lamEnv X scope s.heap.objs.size f c' :: outer
  ex := []
  fn := fun _ => false
  calm := true
  pn := []
  xe := fun _ _ => False
section
variable {X : Cx} {pins : List (Addr × Obj)} {σ : L2.St} {H HZ : Hp} {s s1 : Shared}
theorem zip_lookup : ∀ {ps : List Str} {us : List Value} {j : Nat} {y : Str} {u : Value}, ps.Nodup → ps[j]? = some y → us[j]? = some u → (ps.zip us).lookup y = some u
  | [], _, _, _, _, _, h, _ => by simp at h
  | _ :: _, [], _, _, _, _, _, h => by simp at h
  | p :: ps, u' :: us, 0, y, u, _, h1, h2 => by
    simp only [List.getElem?_cons_zero, Option.some.injEq] at h1 h2
    subst h1 h2
    simp
  | p :: ps, u' :: us, j + 1, y, u, nd, h1, h2 => by
    rw [List.nodup_cons] at nd
    have h1' : ps[j]? = some y := by simpa using h1
    have hne : (y == p) = false := by
      rw [beq_eq_false_iff_ne]
      exact fun z => nd.1 (z ▸ List.mem_of_getElem? h1')
    rw [List.zip_cons_cons, List.lookup_cons, hne]
    exact zip_lookup nd.2 h1' (by simpa using h2)
theorem zip_rev_lookup {ps : List Str} {us : List Value} {j : Nat} {y : Str} {u : Value} (nd : ps.Nodup) (hl : us.length = ps.length) (h1 : ps[j]? = some y) (h2 : us[j]? = some u) : (ps.zip us).reverse.lookup y = some u := by
  have e : (ps.zip us).reverse = ps.reverse.zip us.reverse := by
    rw [List.zip, List.reverse_zipWith hl.symm]
  rw [e]
  obtain ⟨hj, e1⟩ := List.getElem?_eq_some_iff.mp h1
  obtain ⟨hj2, e2⟩ := List.getElem?_eq_some_iff.mp h2
  refine zip_lookup (j := ps.length - 1 - j) ((List.reverse_perm ps).nodup_iff.mpr nd) ?_ ?_
  · rw [List.getElem?_reverse (by omega), show ps.length - 1 - (ps.length - 1 - j) = j by omega]; exact h1
  · rw [List.getElem?_reverse (by omega), show us.length - 1 - (ps.length - 1 - j) = j by omega]; exact h2
theorem lam_start3 {A : Around} {outer : List Env} {scope : Scope} {f c' : Addr} {h₁ : Heap} {tk : Nat} {cs : List Nat} {ps Nl : List Str} {vc vs : List V} {us : List Value} (I : Inv X pins σ H s) (L : LamW X.N X.env.scope scope cs ps Nl) (e0 : Env0 X.prog X.w X.K X.mg X.base A outer s1 HZ) (hd : A.handled = none)
    (un : Un (frs X.stack) [] H HZ s.heap s1.heap) (hns : h₁.Ns s1.heap.objs.size fun y => (ps.zip us).reverse.lookup y) (kp : ∀ b o, s1.heap.get? b = some o → h₁.get? b = some o)
    (hc : vc.length = cs.length) (hcv : ∀ (j i : Nat) (v : V), cs[j]? = some i → vc[j]? = some v → σ[i]? = some (some v)) (r : Vals vs us) (hl : vs.length = ps.length) :
    Inv (lamC X A outer s1 HZ scope f c' Nl) [] (L2.start Nl (vc ++ vs)) HZ { s1 with heap := h₁, toks := tk } := by
  have hfree := L.has I.ok
  have cm : ∀ {y c}, (cloFrom X.env.cells scope.names []).lookup y = some c → X.env.cells.lookup y = some c := fun {y c} e => by
    rcases cloFrom_mem (PySem.mem_of_lookup e) with hm | ⟨h1, h2⟩
    · cases hm
    · obtain ⟨c1, hc⟩ := hfree _ h1 rfl
      have hc : X.env.cells.lookup y = some c1 := hc
      have e2 : c = c1 := by
        rw [h2, hc] <;> rfl
      rw [e2]
      exact hc
  have look : ∀ {y}, scope.names.lookup y = some .free → ∃ c, (cloFrom X.env.cells scope.names []).lookup y = some c := fun {y} hl => by
    have hy : (y, NameKind.free) ∈ scope.names := PySem.mem_of_lookup hl
    exact mem_lookup (cloFrom_has (cells := X.env.cells) (acc := []) hy)
  have cellK : ∀ {c : Addr} {v : Option Value}, H c = none → s.heap.IsCell c v → h₁.IsCell c v := fun {c v} n ⟨o, ho, hd⟩ => by
    obtain ⟨sl, q⟩ := un.any ho n (by simp)
    exact ⟨_, kp _ _ q, hd⟩
  have noA : ∀ b : Addr, b ∉ (lamC X A outer s1 HZ scope f c' Nl).ex := fun b z => absurd (show b ∈ ([] : List Addr) from z) (by simp)
  have hNl : Nl.length = cs.length + ps.length := by rw [L.eq, List.length_append, List.length_map]
  have hlu : us.length = ps.length := by rw [← r.length, hl]
  refine ⟨⟨e0.mod, L.kind, rfl, rfl, Nat.le_refl _, fun y z c e1 e2 => I.ok.inj y z c (cm e1) (cm e2), fun y hy => ?_, fun y c z _ => ?_, fun _ => hd, Around.frames_deeper e0.frames, .inr ⟨rfl, rfl⟩, fun b z => absurd z (noA b), e0.bs, e0.bsz, fun b _ _ => noA b,
      fun b z => absurd z (noA b), e0.funs, e0.frf⟩,
    rfl, e0.bare, Un.kept kp, ⟨_, hns, fun i y v e1 e2 e3 => ?_⟩, fun y c e => ?_, e0.hok.fresh (Nat.le_refl _), fun y c e => ?_, fun q hq => absurd (show q ∈ ([] : List (Addr × Obj)) ++ [] from hq) (by simp), e0.hok.kept kp, ?_⟩
  · have hy : scope.names.lookup y = some .cell ∨ scope.names.lookup y = some .free := hy
    rcases hy with hy | hy
    · exact absurd rfl (L.nocell _ (PySem.mem_of_lookup hy))
    · exact look hy
  · have z : false = true := z
    cases z
  · have e1 : Nl[i]? = some y := e1
    have e2 : ((vc ++ vs).map some ++ List.replicate (Nl.length - (vc ++ vs).length) none)[i]? = some (some v) := e2
    have hi : i < (vc ++ vs).length := by
      refine Nat.lt_of_not_le fun z => ?_
      rw [List.getElem?_append_right (by simpa using z), List.getElem?_replicate] at e2
      split at e2 <;> cases e2
    rw [List.getElem?_append_left (by simpa using hi), List.getElem?_map] at e2
    have e2' : (vc ++ vs)[i]? = some v := by
      cases hw : (vc ++ vs)[i]? with
      | none => rw [hw] at e2; cases e2
      | some w' => rw [hw] at e2; cases e2; rfl
    by_cases hic : i < cs.length
    · have e3 : vc[i]? = some v := by rw [List.getElem?_append_left (by omega)] at e2'; exact e2'
      obtain ⟨ci, ec⟩ : ∃ ci, cs[i]? = some ci := ⟨_, List.getElem?_eq_getElem hic⟩
      obtain ⟨⟨x, ex⟩, hfr⟩ := L.cap ci (List.mem_of_getElem? ec)
      have ey : y = x := by
        rw [L.eq, List.getElem?_append_left (by simpa using hic), List.getElem?_map, ec] at e1
        simp only [Option.map_some, Option.some.injEq] at e1
        rw [← e1, ex]; rfl
      subst ey
      rw [ex] at hfr
      have k : scope.names.lookup y = some .free := hfr
      obtain ⟨m, hn, hlk⟩ := I.loc
      have hvis : Vis X.env.scope y := (L.free _ (PySem.mem_of_lookup k) rfl).elim (fun k => .inr (.inl k)) (fun k => .inr (.inr k))
      obtain ⟨w', rr, q⟩ := hlk ci y v ex (hcv i ci v ec e3) hvis
      obtain ⟨c2, h2⟩ := look k
      refine ⟨w', rr, .inr ⟨.inr k, c2, h2, ?_⟩⟩
      have c1 := cm h2
      rcases q with ⟨k', _⟩ | ⟨_, c3, e', z⟩
      · have k' : X.env.scope.names.lookup y = some .local := k'
        rcases L.free _ (PySem.mem_of_lookup k) rfl with k2 | k2 <;> rw [show X.env.scope.names.lookup y = _ from k2] at k' <;> cases k'
      · rw [c1] at e'
        cases e'
        exact cellK (I.freeC y _ c1) z
    · have e3 : vs[i - cs.length]? = some v := by rw [List.getElem?_append_right (by omega), hc] at e2'; exact e2'
      have e4 : ps[i - cs.length]? = some y := by rw [L.eq, List.getElem?_append_right (by simpa using hic)] at e1; simpa using e1
      obtain ⟨u, eu, ru⟩ := r.get e3
      have ndp : ps.Nodup := by have := L.nd; rw [L.eq, List.nodup_append] at this; exact this.2.1
      exact ⟨u, ru, .inl ⟨L.par y (List.mem_of_getElem? e4), zip_rev_lookup ndp hlu e4 eu⟩⟩
  · obtain ⟨w', z⟩ := I.cell y c (cm e)
    exact ⟨w', cellK (I.freeC y c (cm e)) z⟩
  · obtain ⟨v, o, ho, hd⟩ := I.cell y c (cm e)
    exact un.free c o ho (I.freeC y c (cm e)) (by simp)
  · show (L2.start Nl (vc ++ vs)).length = Nl.length
    unfold L2.start
    rw [List.length_append, List.length_map, List.length_replicate, List.length_append, hc, hl, hNl]
    omega
theorem Dn.atom {C : DC} {O O' : Ow} {H H' : Hp} {v : V} {x : RW.D} (h : Dn C O H v x) (e : atomB x = true) : Dn C O' H' v x := by
  cases h with
  | non => exact .non
  | bl b => exact .bl b
  | int i => exact .int i
  | str x => exact .str x
  | _ => cases e
theorem DnA.atoms {C : DC} {O O' : Ow} {H H' : Hp} : ∀ {vs : List V} {xs : List RW.D}, DnA C O H vs xs → xs.all atomB = true → DnA C O' H' vs xs
  | _, _, .nil, _ => .nil
  | _, _, .cons a t, e => by
    rw [List.all_cons, Bool.and_eq_true] at e
    exact .cons (a.atom e.1) (t.atoms e.2)
theorem Dn.cap {C : DC} {O O' : Ow} {H H' : Hp} {v : V} {x : RW.D} (h : Dn C O H v x) (e : capD x = true) (k : ∀ b xs, H b = some (.tup xs) → H' b = some (.tup xs)) : Dn C O' H' v x := by
  cases h with
  | non => exact .non
  | bl b => exact .bl b
  | int i => exact .int i
  | str x => exact .str x
  | tupH q t => exact .tupH (k _ _ q) (t.atoms e)
  | tupK q l t => exact .tupK q l (t.atoms e)
  | _ => cases e
end
end RW
set_option Elab.async false
set_option linter.all false
set_option maxRecDepth 100000
set_option maxHeartbeats 4000000
namespace RW
open PySem PySem.W PyProof.Rows L2
section
variable {X : Cx} {pins : List (Addr × Obj)} {σ : L2.St} {H : Hp} {s : Shared} {C : DC}
theorem DnA.caps {C : DC} {O O' : Ow} {H H' : Hp} : ∀ {vs : List V} {xs : List RW.D}, DnA C O H vs xs → xs.all capD = true → (∀ b xs, H b = some (.tup xs) → H' b = some (.tup xs)) → DnA C O' H' vs xs
  | _, _, .nil, _, _ => .nil
  | _, _, .cons a t, e, k => by
    rw [List.all_cons, Bool.and_eq_true] at e
    exact .cons (a.cap e.1 k) (t.caps e.2 k)
/-- the making tells: the object, its code among the table's -/
structure LamAt (X : Cx) (H : Hp) (s : Shared) (f c' P : Addr) (pos : Pos) (params : Arguments) (body : Expr) (scope : Scope) (pm ctv : Value) : Prop where
  ob : s.heap.get? f = some (PySem.W.kla_obj "<lambda>" (X.env.qual ++ "<lambda>") params body scope (cloFrom X.env.cells scope.names []) pm c' ctv)
  no : H f = none
  fr : f ∉ frs X.stack
  tb : ∃ ps, H P = some (.tbl ps) ∧ codeAmong pos ps.toList = some (.ref c')
theorem lam_ok {f c' P : Addr} {pos : Pos} {params : Arguments} {body : Expr} {scope : Scope} {pm ctv : Value} {cs : List Nat} {ps : List Str} {vc : List V} {xs : List D} {O0 : Ow} {fdl : FnD} {e : RW.E} {call : Call} {fu : Option Nat} {k : Nat}
    {Ng : List Str} {qg : Str} {sg : Scope} {g : Addr} {cdg : Value} {Eg : XK}
    (I : Inv X pins σ H s) (L : LamW X.N X.env.scope scope cs ps fdl.N) (la : LamAt X H s f c' P pos params body scope pm ctv) (hT : (P, X.env.qual ++ "<lambda>") ∈ C.T)
    (hc : vc.length = cs.length) (hcv : ∀ (j i : Nat) (v : V), cs[j]? = some i → vc[j]? = some v → σ[i]? = some (some v)) (dc : DnA C O0 H vc xs) (hca : xs.all capD = true)
    (hbind : ∀ (us : List Value), us.length = ps.length → bindArgs (PySem.W.kla_fn "<lambda>" (X.env.qual ++ "<lambda>") params body scope (cloFrom X.env.cells scope.names []) pm (.ref c') ctv) ⟨us, []⟩ = pure (ps.zip us))
    (hnp : fdl.np = cs.length + ps.length) (hbd : fdl.body = .cons (.ret e) .nil)
    (hr : Room (k + 1) (X.A.deeper (envOfC qg sg s.heap.objs.size g cdg)))
    (hbody : ∀ (A : Around) (outer : List Env) (s' : Shared) (H' : Hp), Room k (A.deeper (LamX.lamEnv X scope s'.heap.objs.size f c')) → PE (lamC X A outer s' H' scope f c' fdl.N) body (tE C noL (evE call e))) :
    LamOk (cxOf C8.CX0 X.prog X.w X.K X.mg X.base Ng qg sg g cdg X.A X.stack s H Eg).nox C f fun ws S => runF call fu fdl (xs.map .d ++ ws) S := by
  have get : ∀ {pinsZ : List (Addr × Obj)} {σZ : L2.St} {HZ : Hp} {sZ : Shared}, Inv (cxOf C8.CX0 X.prog X.w X.K X.mg X.base Ng qg sg g cdg X.A X.stack s H Eg).nox pinsZ σZ HZ sZ → sZ.heap.get? f = some (PySem.W.kla_obj "<lambda>" (X.env.qual ++ "<lambda>") params body scope (cloFrom X.env.cells scope.names []) pm c' ctv) := fun IZ =>
    IZ.base.keep f _ la.ob la.no la.fr (fun z => nomatch (show f ∈ ([] : List Addr) from z))
  refine ⟨fun pinsZ σZ HZ sZ IZ => ⟨_, _, _, _, get IZ⟩, fun pinsZ σZ HZ sZ vs us Q IZ r hsp => ?_⟩
  obtain ⟨O, φ, S, ws, w, S', sm, wo, e1, h⟩ := hsp
  have of1 := get IZ
  have un : Un (frs X.stack) [] H HZ s.heap sZ.heap := IZ.base
  obtain ⟨pss, hP, ham⟩ := la.tb
  obtain ⟨more, hP2⟩ := un.tbls P pss hP
  obtain ⟨ps2, a1, a2, a3⟩ := sm.tb _ hT
  have a1 : HZ P = some (.tbl ps2) := a1
  rw [hP2] at a1
  cases a1
  obtain ⟨c2, e2, hco⟩ := a3 pos (.ref c') (by rw [Array.toList_append]; exact among_more _ _ ham)
  cases e2
  obtain ⟨⟨oc, vsc, t, hoc, hdc, hvc⟩, _, _⟩ := IZ.hok c' _ hco
  have e1 : runF call fu fdl (xs.map .d ++ ws) S = some (w, S') := e1
  unfold runF at e1
  split at e1
  · rename_i hlen
    obtain ⟨p, S1, e2, e3⟩ := bd_eq e1
    rw [hbd] at e2
    obtain ⟨p2, S2, e4, e5⟩ := bd_eq e2
    obtain ⟨w1, S3, e6, e7⟩ := bd_eq e4
    cases e7
    cases e5
    have hxl : xs.length = cs.length := by rw [← hc]; exact dc.length.symm
    have hvl : vs.length = ps.length := by
      rw [wo.len]
      rw [List.length_append, List.length_map, hnp, hxl] at hlen
      omega
    have dc2 : DnA C O HZ vc xs := dc.caps hca un.tups
    have wo2 : WsOk C noL O φ HZ (vc ++ vs) (xs.map .d ++ ws) := (WsOk.ofD dc2).app wo
    have en := start_ok (N := fdl.N) wo2
    rw [hlen] at en
    have rc : codeAny (model X.prog X.w) (X.A.deeper (envOfC qg sg s.heap.objs.size g cdg)) (.call (.ref f) ⟨us, []⟩) (CR C8.CX0 (envOfC qg sg s.heap.objs.size g cdg :: X.stack) X.prog X.w HZ sZ Q C8.E0) sZ := by
      refine PySem.W.kla_callFunE hr.depth of1 rfl L.co L.gen rfl ⟨c', oc, vsc, t, rfl, hoc, hdc, hvc⟩ ?_
      rw [hbind us (by rw [← r.length]; exact hvl)]
      refine wpAny_pure (wpAny_newFunctionEnv (fun y hy => L.nocell y hy) (fun y hy => L.par y.1 (List.of_mem_zip hy).1) (fun h₁ hns hsb => ⟨IZ.nolimit.fresh _ hsb, ?_⟩) L.kind)
      show codeAny _ _ (.expr body (LamX.lamEnv X scope sZ.heap.objs.size f c')) _ _
      have kp : ∀ b o, sZ.heap.get? b = some o → h₁.get? b = some o := fun b o e => hsb.extBut b o (Nat.ne_of_lt (Heap.lt_size e)) (Heap.get?_push_of_some _ e)
      have J := lam_start3 (f := f) (c' := c') (tk := sZ.toks + (ps.zip us).length) I L IZ.env0 hr.hd un hns kp hc hcv r hvl
      refine PySem.W.kla_codeExpr (wpAny_mono ((hbody _ _ sZ HZ (hr.deeper _)).run [] _ _ HZ (fun v H' => ∃ O' φ', Nxt O φ HZ O' φ' H' ∧ Sim C O' φ' H' S' ∧ WOk C noL O' φ' H' v w) J ⟨O, φ, S, _, w1, _, ⟨sm, en⟩, e6, fun v O' φ' H' n sm1 wv => ?_⟩) (fun v s' hq => ?_) fun e s' hq => hq.elim)
      · exact hand_ok sm sm1 n wv e3
      · obtain ⟨w', H', J', rv, O', φ', n, sm1, wv⟩ := hq
        exact ⟨w', H', J'.os, J'.bare, J'.base, J'.hok, rv, h _ _ _ _ n sm1 wv⟩
    refine wpAny_call (codeAny_mono rc fun r s' hq => ?_)
    cases r with
    | error e => exact False.elim hq
    | ok fl =>
      cases fl with
      | ret u => exact IZ.after hq
      | next => exact False.elim hq
      | brk => exact False.elim hq
      | cont => exact False.elim hq
  · cases e1
end
end RW
set_option Elab.async false
set_option linter.all false
set_option maxRecDepth 100000
set_option maxHeartbeats 4000000
namespace RW
open PySem PySem.W PyProof.Rows L2
section
variable {X : Cx} {C : DC}
theorem caps_ok {O : Ow} {φ : List Addr} {H : Hp} {L : Clo} {σ : L2.St} {env : Env1} (en : EnvOk C L O φ H σ env) : ∀ {cs : List Nat} {xs : List D}, caps env cs = some xs → ∃ vc : List V, vc.length = cs.length ∧ (∀ (j i : Nat) (v : V), cs[j]? = some i → vc[j]? = some v → σ[i]? = some (some v)) ∧ DnA C O H vc xs
  | [], xs, e => by
    cases e
    exact ⟨[], rfl, fun j i v h => by simp at h, .nil⟩
  | c :: cs, xs, e => by
    unfold caps at e
    split at e
    · rename_i x hs
      cases hc : caps env cs with
      | none => rw [hc] at e; cases e
      | some ys =>
        rw [hc] at e
        cases e
        obtain ⟨vc, h1, h2, h3⟩ := caps_ok en hc
        obtain ⟨v, e1, wo⟩ := en.at_ c _ hs
        refine ⟨v :: vc, by simp [h1], fun j i v' a b => ?_, .cons wo h3⟩
        cases j with
        | zero =>
          simp only [List.getElem?_cons_zero, Option.some.injEq] at a b
          subst a b
          exact e1
        | succ j => exact h2 j i v' (by simpa using a) (by simpa using b)
    · cases e
theorem hand_d {fd : FnD} {n : Nat} {w w' : W} {S S' : Sto} (hk : fd.keep = false) (e : handBack fd n w S = some (w', S')) : ∃ x, w' = .d x := by
  unfold handBack at e
  rw [hk] at e
  dsimp only [] at e
  split at e
  · cases e; exact ⟨_, rfl⟩
  · split at e
    · split at e
      · cases e; exact ⟨_, rfl⟩
      · split at e
        · cases e; exact ⟨_, rfl⟩
        · cases e
      · cases e
    · cases e
  · cases e
/-- g(a, b, c, lambda ..: ..) -/
theorem pe_lam3 {m1 m2 m3 : Env1 → Sto → Option (W × Sto)} {a b c0 : Expr} {x : Str} {p lpos pos : Pos} {params : Arguments} {body : Expr} {scope : Scope} {cs : List Nat} {psl Nl : List Str} {l : Nat} {cA P g : Addr} {k : Nat} {call : Call} {fu : Option Nat}
    {nm : Nat → Option Str} {par : Nat → List Str} {ini : Nat} {kr : Nat → Bool} {ck : Ck} {st : Stmt} {fdt : FuncData} {fdg : FnD} {ps : List Str}
    (ha : PE X a (tE C noL m1)) (hb : PE X b (tE C noL m2)) (hc : PE X c0 (tE C noL m3)) (sa : notStar a = true) (sb : notStar b = true) (sc : notStar c0 = true)
    (hg : Gl X x) (hm : X.mg x = some (.ref g)) (hk : PySem.W.keepIn X.K (.ref g) = true) (hdb : (x == ("__debug__" : Str)) = false)
    (F : C8.Fun X.K x x st g fdt) (S : FnScope fdg.N ps (C8.fnScope st)) (hl : ps.length = fdg.np) (hkeep : fdg.keep = false) (hbi : Binds X.K fdt ps [])
    (hck : chkTs ck fdg.body (C8.fnBody st) = true) (hsc : ck.sc = C8.fnScope st) (hN : ck.N = fdg.N) (hfb : ck.fnb = fun _ => true) (hnm : ck.nm = nm) (hpar : ck.par = par) (hini : ck.ini = ini) (hkr : ck.kr = kr) (hlc : ck.lcOk = false) (hex : ck.ext = fun _ _ => false) (hgv : ∀ x y, x ∈ ck.gvs → GV x = some y → ∃ v u, X.mg x = some u ∧ RelV v u ∧ ∀ O H, Dn C O H v y)
    (TB : LamX.TabB X.base X.mg cA P) (hcode : X.env.code = .ref cA) (hmT : (P, X.env.qual ++ "<lambda>") ∈ C.T) (hu : ∀ p ∈ C.T, p.1 = P → p.2 = X.env.qual ++ "<lambda>") (hr : Room (k + 1) X.A)
    (LW : LamW X.N X.env.scope scope cs psl Nl) (hdef : defaultsOf params X.env = ([], []))
    (hlo : ∀ {pins : List (Addr × Obj)} {σ : L2.St} {H : Hp} {s : Shared} {f c' : Addr} {pm ctv cdg : Value} {vc : List V} {xs : List D} {O0 : Ow}, Inv X pins σ H s → LamAt X H s f c' P lpos params body scope pm ctv → vc.length = cs.length → (∀ (j i : Nat) (v : V), cs[j]? = some i → vc[j]? = some v → σ[i]? = some (some v)) → DnA C O0 H vc xs → xs.all capD = true →
      Room k (X.A.deeper (envOfC x (C8.fnScope st) s.heap.objs.size g cdg)) → LamOk (cxOf C8.CX0 X.prog X.w X.K X.mg X.base fdg.N x (C8.fnScope st) g cdg X.A X.stack s H C8.E0).nox C f fun ws S => call l (xs.map .d ++ ws) S)
    (hx : ∀ (Z : Cx) (L : Clo), Z.K = X.K → Z.mg = X.mg → Z.prog = X.prog → Z.w = X.w → Z.base = X.base → Z.calm = true → Z.N.Nodup → Room k Z.A → (∀ a k cs, L a k cs → LamOk Z C a fun ws S => call k (cs.map .d ++ ws) S) → Fx C L nm par ini kr call Z) :
    PE X (.Call (.Name x p) [a, b, c0, .Lambda params body scope lpos] [] pos) (tE C noL fun e S => bd (bd (m1 e S) fun w1 S => bd (bd (m2 e S) fun w2 S => bd (bd (m3 e S) fun w3 S => bd (some ([], S)) fun r S => some (w3 :: r, S)) fun r S => some (w2 :: r, S)) fun r S => some (w1 :: r, S)) fun ws S =>
      if noClo ws then (ob (caps e cs) fun xs => if xs.all capD then runF call fu fdg (ws ++ [.clo l xs]) S else none) else none) := by
  refine ⟨fun pins s σ H Q I ⟨O, φ, S0, env, w, S', at_, e, h⟩ => ?_⟩
  have hst : starEach [a, b, c0, .Lambda params body scope lpos] X.env = [(false, eval a X.env), (false, eval b X.env), (false, eval c0 X.env), (false, eval (.Lambda params body scope lpos) X.env)] := by rw [star_of sa, star_of sb, star_of sc]; rfl
  refine wpAny_Call_Name_kw (ld_glob I hg hm ?_ hdb)
  refine PySem.W.callWith_K (h₀ := X.base) I.ok.mod.kin hk ?_ (star_of sa) (back_any (by simp only [List.all_cons, List.all_nil, sb, sc]; rfl))
  rw [hst]
  show wpAny _ _ (spliced ((false, eval a X.env) :: (false, eval b X.env) :: (false, eval c0 X.env) :: (false, eval (.Lambda params body scope lpos) X.env) :: [])) _ _ s
  obtain ⟨ws, S4, e0, e⟩ := bd_eq e
  obtain ⟨w1, S1, e1, e0⟩ := bd_eq e0
  obtain ⟨r1, S1', e2', e0⟩ := bd_eq e0
  cases e0
  obtain ⟨w2, S2, e2, e2'⟩ := bd_eq e2'
  obtain ⟨r2, S2', e3', e2'⟩ := bd_eq e2'
  cases e2'
  obtain ⟨w3, S3, e3, e3'⟩ := bd_eq e3'
  cases e3'
  split at e
  · rename_i hnc
    obtain ⟨xs, hxs, e⟩ := ob_eq e
    split at e
    · rename_i hca
      refine Calls.spliced_cons (thn (ha.run pins s σ H (fun v H' => ∃ O' φ', Nxt O φ H O' φ' H' ∧ Sim C O' φ' H' S1 ∧ WOk C noL O' φ' H' v w1) I ⟨O, φ, S0, env, w1, S1, at_, e1, fun v O' φ' H' n sm wo => ⟨O', φ', n, sm, wo⟩⟩) fun u1 s1 ⟨v1, H1, I1, r1, O1, φ1, n1, sm1, wo1⟩ => ?_)
      have at1 := at_.next n1 sm1
      refine Calls.spliced_cons (thn (hb.run pins s1 σ H1 (fun v H' => ∃ O' φ', Nxt O1 φ1 H1 O' φ' H' ∧ Sim C O' φ' H' S2 ∧ WOk C noL O' φ' H' v w2) I1 ⟨O1, φ1, S1, env, w2, S2, at1, e2, fun v O' φ' H' n sm wo => ⟨O', φ', n, sm, wo⟩⟩) fun u2 s2 ⟨v2, H2, I2, r2, O2, φ2, n2, sm2, wo2⟩ => ?_)
      have at2 := at1.next n2 sm2
      refine Calls.spliced_cons (thn (hc.run pins s2 σ H2 (fun v H' => ∃ O' φ', Nxt O2 φ2 H2 O' φ' H' ∧ Sim C O' φ' H' _ ∧ WOk C noL O' φ' H' v w3) I2 ⟨O2, φ2, S2, env, w3, _, at2, e3, fun v O' φ' H' n sm wo => ⟨O', φ', n, sm, wo⟩⟩) fun u3 s3 ⟨v3, H3, I3, r3, O3, φ3, n3, sm3, wo3⟩ => ?_)
      have at3 := at2.next n3 sm3
      refine Calls.spliced_cons (lam_make3 (T := C.T) I3 TB hcode hmT hu sm3.tb hdef (LW.has I3.ok) fun f c' pm ctv H4 s4 I4 ln T4 ob no fr => ?_)
      refine Calls.spliced_nil ⟨I4.kIn, ?_⟩
      obtain ⟨nx4, sm4⟩ := lam_next sm3 ln T4
      have at4 := at3.next nx4 sm4
      obtain ⟨vc, c1, c2, c3⟩ := caps_ok at4.env hxs
      have wo1' : WOk C noL O3 φ3 H4 v1 w1 := ((wo1.mono sm1 n2).mono sm2 n3).mono sm3 nx4
      have wo2' : WOk C noL O3 φ3 H4 v2 w2 := (wo2.mono sm2 n3).mono sm3 nx4
      have wo3' : WOk C noL O3 φ3 H4 v3 w3 := wo3.mono sm3 nx4
      obtain ⟨oc, od, dV, kV, doc, pmg, an, cdv, ct, osl, rfl, lk, hcd⟩ := F.ex
      unfold runF at e
      split at e
      · rename_i hlen
        have hl4 : ps.length = 4 := by rw [hl, ← hlen]; rfl
        obtain ⟨pp, S5, e5, e6⟩ := bd_eq e
        obtain ⟨fl, env'⟩ := pp
        have rc : codeAny (model X.prog X.w) X.A (.call (.ref g) ⟨[u1, u2, u3, .ref f], []⟩) (CR C8.CX0 X.stack X.prog X.w H4 s4 Q C8.E0) s4 := by
          refine LamX.run_ofS (N := fdg.N) (ps := ps) (us := [u1, u2, u3, .ref f]) (vs := [v1, v2, v3, .ref f]) lk hcd S hr I4.env0 (hbi s4 [u1, u2, u3, .ref f] I4.kIn (by rw [hl4]; rfl)) (.cons r1 (.cons r2 (.cons r3 (.cons rfl .nil)))) (by rw [hl4]; rfl) fun hr' => ?_
          have LO := hlo (cdg := cdv) I4 ⟨ob, no, fr, ln.1⟩ c1 c2 c3 hca hr'
          have FX := hx (cxOf C8.CX0 X.prog X.w X.K X.mg X.base fdg.N x (C8.fnScope st) g cdv X.A X.stack s4 H4 C8.E0).nox (fun a k' cs' => a = f ∧ k' = l ∧ cs' = xs) rfl rfl rfl rfl rfl rfl S.nd hr' (fun a k' cs' ⟨h1, h2, h3⟩ => by subst h1 h2 h3; exact LO)
          have NM : Nm C call (fun a k' cs' => a = f ∧ k' = l ∧ cs' = xs) nm par ini kr ck (cxOf C8.CX0 X.prog X.w X.K X.mg X.base fdg.N x (C8.fnScope st) g cdv X.A X.stack s4 H4 C8.E0).nox := ⟨hnm, hpar, hini, hkr, (fun z => by rw [hlc] at z; cases z), hN.symm, hsc.symm, hfb.symm, (fun e a z => by rw [hex] at z; cases z), hgv⟩
          have wo : WsOk C (fun a k' cs' => a = f ∧ k' = l ∧ cs' = xs) O3 φ3 H4 [v1, v2, v3, .ref f] [w1, w2, w3, .clo l xs] := ⟨wo1'.ofNo, wo2'.ofNo, wo3'.ofNo, ⟨f, rfl, rfl, rfl, rfl⟩, True.intro⟩
          have en := start_ok (N := fdg.N) wo
          refine ⟨_, (chkTs_ok (fu := fu) fdg.body ck _ _ FX NM S.kind (by exact PassesOwn.never) hck).nox, O3, φ3, _, _, fl, env', S5, ⟨sm4, en⟩, by rw [show [w1, w2, w3, W.clo l xs].length = fdg.np from hlen]; exact e5, fun σ' O' φ' H' _ n sm1 => ?_⟩
          have fin : ∀ {v : V} {w' : W}, WOk C (fun a k' cs' => a = f ∧ k' = l ∧ cs' = xs) O' φ' H' v w' → handBack fdg _ w' S5 = some (w, S') → Q v H' := fun {v w'} wv e => by
            obtain ⟨O2', φ2', n2', sm2', wo2''⟩ := hand_ok sm4 sm1 n wv e
            obtain ⟨x, rfl⟩ := hand_d hkeep e
            exact h _ _ _ _ ((((n1.trans at_.ow n2).trans at_.ow n3).trans at_.ow nx4).trans at_.ow n2') sm2' wo2''
          cases fl with
          | nx => exact fun _ => fin (show WOk C _ O' φ' H' .non (.d .none) from .non) e6
          | rt w2 => exact fun v wv => fin wv e6
          | bk => cases e6
          | ct => cases e6
        refine wpAny_call (codeAny_mono rc fun r s' hq => ?_)
        cases r with
        | error e => exact False.elim hq
        | ok fl =>
          cases fl with
          | ret u => exact I4.after hq
          | next => exact False.elim hq
          | brk => exact False.elim hq
          | cont => exact False.elim hq
      · cases e
    · cases e
  · cases e
end
end RW
set_option linter.all false
set_option maxRecDepth 100000
namespace RW
open PySem PySem.W
/-- k00,k01,k02,k03,k04,k06,k07,k08,k09,k10,k11,k12,k14,k15,k16,k17,k18,k19,k20,k23,k24 -/
def fd__law_well : FnD := ⟨"_law_well", 2, ["script", "lap", "stirred", "cell", "own"], (.cons (.asg (.nm 2) (.bin .Add (.k (.int 704969)) (.bin .Mult (.k (.int 6121)) (.v 1)))) (.cons (.for (.nm 3) (.e (.slc (.v 0) .no (.so (.k (.int 16))))) (.cons (.asg (.nm 2) (.bin .Mod (.bi .int (.cons (.bin .Add (.bin .Add (.bin .Mult (.v 2) (.k (.int 48271))) (.bin .Mod (.bi .int (.cons (.v 3) .nil)) (.k (.int 2147483549)))) (.k (.int 23))) .nil)) (.k (.int 2147483587)))) .nil)) (.cons (.asg (.nm 4) (.ite (.cmp .Lt (.v 1) (.bi .len (.cons (.v 0) .nil))) (.bi .int (.cons (.sub (.v 0) (.v 1)) .nil)) (.k (.int 0)))) (.cons (.asg (.nm 2) (.bin .Mod (.bi .int (.cons (.bin .Add (.bin .Add (.bin .Mult (.v 2) (.k (.int 53))) (.bin .Mult (.bin .Mod (.bi .int (.cons (.v 4) .nil)) (.k (.int 2147483549))) (.k (.int 15013)))) (.k (.int 11))) .nil)) (.k (.int 2147483587)))) (.cons (.ret (.own (.cons (.ite (.or (.cmp .Lt (.v 4) (.k (.int 0))) (.cmp .GtE (.v 4) (.bin .Pow (.k (.int 10)) (.k (.int 15))))) (.bi .abs (.cons (.v 4) .nil)) (.k (.int 0))) (.cons (.v 2) (.cons (.k (.int 0)) .nil))))) .nil))))), true, none⟩
/-- k00,k01,k02,k03,k04,k06,k07,k08,k09,k10,k11,k12,k14,k15,k16,k17,k18,k19,k20,k23,k24 -/
def fd__law_draw : FnD := ⟨"_law_draw", 2, ["well", "limit", "mixed", "figure"], (.cons (.ite (.cmp .Gt (.sub (.v 0) (.k (.int 0))) (.k (.int 0))) (.cons (.setIT (.v 0) (.k (.int 0)) 3 (.bi .divmod (.cons (.sub (.v 0) (.k (.int 0))) (.cons (.v 1) .nil)))) (.cons (.ret (.v 3)) .nil)) .nil) (.cons (.setI (.v 0) (.k (.int 2)) (.bin .Add (.sub (.v 0) (.k (.int 2))) (.k (.int 1)))) (.cons (.asg (.nm 2) (.bin .Mod (.bi .int (.cons (.bin .Add (.bin .Add (.bin .Mult (.sub (.v 0) (.k (.int 1))) (.k (.int 40009))) (.bin .Mult (.k (.int 15013)) (.sub (.v 0) (.k (.int 2))))) (.k (.int 3))) .nil)) (.k (.int 2147483587)))) (.cons (.setI (.v 0) (.k (.int 1)) (.bin .Mod (.bi .int (.cons (.bin .Add (.bin .Mult (.v 2) (.bin .Add (.bin .Mod (.bi .int (.cons (.v 2) .nil)) (.k (.int 5003))) (.k (.int 20011)))) (.sub (.v 0) (.k (.int 2)))) .nil)) (.k (.int 2147483587)))) (.cons (.ret (.bin .Mod (.bi .int (.cons (.bin .FloorDiv (.sub (.v 0) (.k (.int 1))) (.k (.int 1031))) .nil)) (.v 1))) .nil))))), false, none⟩
/-- k00,k01,k02,k03,k04,k06,k07,k08,k09,k10,k11,k12,k14,k15,k16,k17,k18,k19,k20,k23,k24 -/
def fd__law_same : FnD := ⟨"_law_same", 2, ["one", "two", "alike", "k"], (.cons (.ite (.bi (.isinst "tuple") (.cons (.v 1) .nil)) (.cons (.ite (.or (.nt (.bi (.isinst "tuple") (.cons (.v 0) .nil))) (.cmp .NotEq (.bi .len (.cons (.v 0) .nil)) (.bi .len (.cons (.v 1) .nil)))) (.cons (.ret (.k (.bool false))) .nil) .nil) (.cons (.ret (.bi .all (.cons (.lc (.call 3 (.cons (.sub (.v 0) (.v 3)) (.cons (.sub (.v 1) (.v 3)) .nil))) (.mk (.nm 3) (.r1 (.bi .len (.cons (.v 1) .nil))) .no) [3]) .nil))) .nil)) .nil) (.cons (.ite (.bi (.isinst "bool") (.cons (.v 1) .nil)) (.cons (.ret (.and (.bi (.isinst "bool") (.cons (.v 0) .nil)) (.cmp .Eq (.v 0) (.v 1)))) .nil) .nil) (.cons (.ite (.bi (.isinst "int") (.cons (.v 1) .nil)) (.cons (.ret (.and (.bi (.isinst "int") (.cons (.v 0) .nil)) (.and (.nt (.bi (.isinst "bool") (.cons (.v 0) .nil))) (.cmp .Eq (.v 0) (.v 1))))) .nil) .nil) (.cons (.ite (.bi (.isinst "str") (.cons (.v 1) .nil)) (.cons (.ret (.and (.bi (.isinst "str") (.cons (.v 0) .nil)) (.cmp .Eq (.v 0) (.v 1)))) .nil) .nil) (.cons (.ite (.cmp .Is (.v 1) (.k .none)) (.cons (.ret (.cmp .Is (.v 0) (.k .none))) .nil) .nil) (.cons (.asg (.nm 2) (.and (.cmp .Eq (.bi (.isinst "list") (.cons (.v 0) .nil)) (.bi (.isinst "list") (.cons (.v 1) .nil))) (.cmp .Eq (.bi (.isinst "dict") (.cons (.v 0) .nil)) (.bi (.isinst "dict") (.cons (.v 1) .nil))))) (.cons (.ret (.and (.v 2) (.and (.nt (.bi (.isinst "tuple") (.cons (.v 0) .nil))) (.cmp .Is (.cmp .Eq (.v 0) (.v 1)) (.k (.bool true)))))) .nil))))))), false, none⟩
/-- k04,k07,k12 -/
def fd_law_k04 : FnD := ⟨"law", 1, ["script", "wells", "lap"], (.cons (.asg (.nm 1) (.lc (.call 1 (.cons (.v 0) (.cons (.v 2) .nil))) (.mk (.nm 2) (.r1 (.bi .max (.cons (.k (.int 1)) (.cons (.bi .min (.cons (.bi .len (.cons (.v 0) .nil)) (.cons (.k (.int 3)) .nil))) .nil)))) .no) [2])) (.cons (.ret (.bi .all (.cons (.lc (.call 8 (.cons (.sub (.v 1) (.bin .Mod (.bi .int (.cons (.v 2) .nil)) (.bi .len (.cons (.v 1) .nil)))) .nil)) (.mk (.nm 2) (.r1 (.k (.int 10))) .no) [2]) .nil))) .nil)), false, none⟩
/-- k01,k02,k03,k04,k06,k07,k08,k09,k10,k11,k12,k14,k15,k16,k17,k18,k19,k20,k23,k24 -/
def fd_is_one_of : FnD := ⟨"is_one_of", 2, ["value", "words"], (.cons (.ret (.and (.bi (.isinst "str") (.cons (.v 0) .nil)) (.cmp .In (.v 0) (.v 1)))) .nil), false, none⟩
/-- k01,k02,k03,k04,k06,k07,k08,k09,k10,k11,k12,k14,k15,k16,k17,k18,k19,k20,k23,k24 -/
def fd_is_word : FnD := ⟨"is_word", 1, ["value", "sign"], (.cons (.ret (.and (.bi (.isinst "str") (.cons (.v 0) .nil)) (.and (.cmp .NotEq (.v 0) (.k (strD ""))) (.bi .all (.cons (.lc (.cmp .In (.v 1) (.g "LETTERS")) (.mk (.nm 1) (.e (.v 0)) .no) [1]) .nil))))) .nil), false, none⟩
/-- k01,k02,k03,k04,k06,k07,k08,k09,k10,k11,k12,k14,k15,k16,k17,k18,k19,k20,k23,k24 -/
def fd_is_name : FnD := ⟨"is_name", 1, ["value"], (.cons (.ret (.and (.call 12 (.cons (.v 0) .nil)) (.and (.cmp .LtE (.bi .len (.cons (.v 0) .nil)) (.g "MOST_LETTERS")) (.cmp .NotIn (.v 0) (.g "WORDS"))))) .nil), false, none⟩
/-- k01,k02,k03,k04,k06,k07,k08,k09,k10,k11,k12,k14,k15,k16,k17,k18,k19,k20,k23,k24 -/
def fd_is_tuple_of : FnD := ⟨"is_tuple_of", 2, ["value", "many"], (.cons (.ret (.and (.bi (.isinst "tuple") (.cons (.v 0) .nil)) (.cmp .Eq (.bi .len (.cons (.v 0) .nil)) (.v 1)))) .nil), false, none⟩
/-- k01,k02,k03,k04,k06,k07,k08,k09,k10,k11,k12,k14,k15,k16,k17,k18,k19,k20,k23,k24 -/
def fd_is_pair : FnD := ⟨"is_pair", 1, ["value"], (.cons (.ret (.call 14 (.cons (.v 0) (.cons (.k (.int 2)) .nil)))) .nil), false, none⟩
/-- k01,k02,k03,k04,k06,k07,k08,k09,k10,k11,k12,k14,k15,k16,k17,k18,k19,k20,k23,k24 -/
def fd_wrong_in : FnD := ⟨"wrong_in", 4, ["value", "least", "most", "is_right", "index", "each"], (.cons (.ite (.or (.nt (.bi (.isinst "tuple") (.cons (.v 0) .nil))) (.cmp .Lt (.bi .len (.cons (.v 0) .nil)) (.v 1))) (.cons (.ret (.lst (.cons (.k .none) .nil))) .nil) .nil) (.cons (.for (.tp [4, 5]) (.enum (.v 0)) (.cons (.ite (.or (.cmp .Eq (.v 4) (.v 2)) (.nt (.callV 3 (.cons (.slc (.v 0) .no (.so (.v 4))) (.cons (.v 5) .nil))))) (.cons (.ret (.lst (.cons (.v 4) .nil))) .nil) .nil) .nil)) (.cons (.ret (.lst .nil)) .nil))), false, none⟩
/-- k01,k02,k03,k04,k06,k07,k08,k09,k10,k11,k12,k14,k15,k16,k17,k18,k19,k20,k23,k24 -/
def fd_are_below : FnD := ⟨"are_below", 2, ["ahead", "value"], (.cons (.ret (.or (.cmp .Eq (.v 0) (.tup .nil)) (.cmp .Lt (.sub (.v 0) (.neg (.k (.int 1)))) (.v 1)))) .nil), false, none⟩
/-- k01,k02,k03,k04,k06,k07,k08,k09,k10,k11,k12,k14,k15,k16,k17,k18,k19,k20,k23,k24 -/
def fd_wrong_in_places : FnD := ⟨"wrong_in_places", 1, ["value"], (.cons (.ret (.callL 16 (.cons (.v 0) (.cons (.g "LEAST_PLACES") (.cons (.g "MOST_PLACES") .nil))) 152 [])) .nil), false, none⟩
/-- k01,k02,k03,k04,k06,k07,k08,k09,k10,k11,k12,k14,k15,k16,k17,k18,k19,k20,k23,k24 -/
def fd_is_tie_of : FnD := ⟨"is_tie_of", 2, ["places", "value"], (.cons (.ret (.and (.call 15 (.cons (.v 1) .nil)) (.and (.call 11 (.cons (.sub (.v 1) (.k (.int 0))) (.cons (.v 0) .nil))) (.and (.call 11 (.cons (.sub (.v 1) (.k (.int 1))) (.cons (.v 0) .nil))) (.cmp .Lt (.sub (.v 1) (.k (.int 0))) (.sub (.v 1) (.k (.int 1)))))))) .nil), false, none⟩
/-- k01,k02,k03,k04,k06,k07,k08,k09,k10,k11,k12,k14,k15,k16,k17,k18,k19,k20,k23,k24 -/
def fd_wrong_in_ties : FnD := ⟨"wrong_in_ties", 2, ["places", "value"], (.cons (.ret (.callL 16 (.cons (.v 1) (.cons (.k (.int 1)) (.cons (.g "MOST_TIES") .nil))) 153 [0])) .nil), false, none⟩
/-- k01,k02,k03,k04,k06,k07,k08,k09,k10,k11,k12,k14,k15,k16,k17,k18,k19,k20,k23,k24 -/
def fd_beside : FnD := ⟨"beside", 2, ["ties", "place", "one", "other"], (.cons (.ret (.lc (.ite (.cmp .Eq (.v 3) (.v 1)) (.v 2) (.v 3)) (.mk (.tp [2, 3]) (.e (.v 0)) (.so (.cmp .In (.v 1) (.tup (.cons (.v 2) (.cons (.v 3) .nil)))))) [2, 3])) .nil), false, none⟩
/-- k01,k02,k03,k04,k06,k07,k08,k09,k10,k11,k12,k14,k15,k16,k17,k18,k19,k20,k23,k24 -/
def fd_do_hang : FnD := ⟨"do_hang", 2, ["places", "ties", "found", "line", "there"], (.cons (.par [2, 3] (.cons (.dic1 (.sub (.v 0) (.k (.int 0))) (.k (.bool true))) (.cons (.own (.cons (.sub (.v 0) (.k (.int 0))) .nil)) .nil))) (.cons (.whl (.cmp .NotEq (.v 3) (.lst .nil)) (.cons (.for (.nm 4) (.e (.call 21 (.cons (.v 1) (.cons (.me .pop (.v 3) .nil) .nil)))) (.cons (.ite (.cmp .NotIn (.v 4) (.v 2)) (.cons (.setI (.v 2) (.v 4) (.k (.bool true))) (.cons (.ex (.me .append (.v 3) (.cons (.v 4) .nil))) .nil)) .nil) .nil)) .nil)) (.cons (.ret (.cmp .Eq (.bi .len (.cons (.v 2) .nil)) (.bi .len (.cons (.v 0) .nil)))) .nil))), false, none⟩
/-- k01,k02,k03,k04,k06,k07,k08,k09,k10,k11,k12,k14,k15,k16,k17,k18,k19,k20,k23,k24 -/
def fd_Web_init : FnD := ⟨"Web.__init__", 3, ["self", "places", "ties", "index"], (.cons (.for (.nm 3) (.e (.call 18 (.cons (.v 1) .nil))) (.cons .never .nil)) (.cons (.for (.nm 3) (.e (.call 20 (.cons (.v 1) (.cons (.v 2) .nil)))) (.cons .never .nil)) (.cons (.ite (.nt (.call 22 (.cons (.v 1) (.cons (.v 2) .nil)))) (.cons .never .nil) .nil) (.cons (.setF (.v 0) "all_told" (.tup (.cons (.v 1) (.cons (.v 2) .nil)))) .nil)))), false, none⟩
/-- k01,k02,k03,k04,k06,k07,k08,k09,k10,k11,k12,k14,k15,k16,k17,k18,k19,k20,k23,k24 -/
def fd__law_of : FnD := ⟨"_law_of", 2, ["well", "some"], (.cons (.ret (.sub (.v 1) (.call 2 (.cons (.v 0) (.cons (.bi .len (.cons (.v 1) .nil)) .nil))))) .nil), false, none⟩
/-- k01,k04,k06,k07,k08,k09,k10,k11,k12,k14,k15,k16,k17,k18,k19,k20,k23,k24 -/
def fd__law_shuffled : FnD := ⟨"_law_shuffled", 2, ["well", "some", "left", "found", "k"], (.cons (.par [2, 3] (.cons (.ownList (.v 1)) (.cons (.own .nil) .nil))) (.cons (.for (.nm 4) (.r1 (.bi .len (.cons (.v 2) .nil))) (.cons (.ex (.me .append (.v 3) (.cons (.me .pop1 (.v 2) (.cons (.call 2 (.cons (.v 0) (.cons (.bi .len (.cons (.v 2) .nil)) .nil))) .nil)) .nil))) .nil)) (.cons (.ret (.v 3)) .nil))), false, none⟩
/-- k01,k02,k03,k04,k06,k07,k08,k09,k10,k11,k12,k14,k15,k16,k17,k18,k19,k20,k23,k24 -/
def fd__law_words : FnD := ⟨"_law_words", 0, ["words"], (.cons (.asg (.nm 0) (.k (strD "all back book bright case chance colour cut draw first game in none of once open out paint place proper"))) (.cons (.asg (.nm 0) (.bin .Add (.v 0) (.k (strD " quit rule short single take tie two undo way web win yes")))) (.cons (.ret (.me .split (.v 0) (.cons (.k (strD " ")) .nil))) .nil))), false, none⟩
/-- k03,k04,k06,k07 -/
def fd__law_names_k03 : FnD := ⟨"_law_names", 2, ["well", "many", "letters", "found", "turn", "name", "size", "lap", "at"], (.cons (.par [2, 3] (.cons (.k (strD "abcdefghijklmnopqrstuvwxyz")) (.cons (.own .nil) .nil))) (.cons (.for (.nm 4) (.r1 (.v 1)) (.cons (.par [5, 6] (.cons (.k (strD "")) (.cons (.call 23 (.cons (.v 0) (.cons (.tup (.cons (.k (.int 0)) (.cons (.k (.int 0)) (.cons (.k (.int 1)) (.cons (.k (.int 2)) (.cons (.k (.int 3)) (.cons (.k (.int 7)) .nil))))))) .nil))) .nil))) (.cons (.for (.nm 7) (.r1 (.v 6)) (.cons (.asg (.nm 5) (.bin .Add (.v 5) (.call 23 (.cons (.v 0) (.cons (.v 2) .nil))))) .nil)) (.cons (.asg (.nm 8) (.call 2 (.cons (.v 0) (.cons (.bin .Add (.v 6) (.k (.int 1))) .nil)))) (.cons (.asg (.nm 5) (.bin .Add (.bin .Add (.slc (.v 5) .no (.so (.v 8))) (.sub (.v 2) (.v 4))) (.slc (.v 5) (.so (.v 8)) .no))) (.cons (.ex (.me .append (.v 3) (.cons (.ite (.or (.cmp .In (.v 5) (.v 3)) (.cmp .In (.v 5) (.call 25 .nil))) (.bin .Mult (.sub (.v 2) (.v 4)) (.k (.int 8))) (.v 5)) .nil))) .nil)))))) (.cons (.ret (.bi .tuple (.cons (.bi .sorted (.cons (.v 3) .nil)) .nil))) .nil))), false, none⟩
/-- k01,k04,k06,k07,k08,k09,k10,k11,k12,k14,k15,k16,k17,k18,k19,k20,k23,k24 -/
def fd__law_web : FnD := ⟨"_law_web", 3, ["well", "least", "most", "many", "names", "pairs", "k", "lap", "order", "ties", "one", "two"], (.cons (.asg (.nm 3) (.bin .Add (.v 1) (.call 2 (.cons (.v 0) (.cons (.bin .Add (.bin .Sub (.v 2) (.v 1)) (.k (.int 1))) .nil))))) (.cons (.par [4, 5] (.cons (.call 27 (.cons (.v 0) (.cons (.v 3) .nil))) (.cons (.dic0 true) .nil))) (.cons (.for (.nm 6) (.r2 (.k (.int 1)) (.v 3)) (.cons (.setI (.v 5) (.tup (.cons (.call 2 (.cons (.v 0) (.cons (.v 6) .nil))) (.cons (.v 6) .nil))) (.k (.bool true))) .nil)) (.cons (.for (.nm 7) (.r1 (.call 23 (.cons (.v 0) (.cons (.tup (.cons (.k (.int 0)) (.cons (.k (.int 1)) (.cons (.k (.int 2)) (.cons (.k (.int 4)) (.cons (.k (.int 7)) .nil)))))) .nil)))) (.cons (.par [10, 11] (.cons (.call 2 (.cons (.v 0) (.cons (.v 3) .nil))) (.cons (.call 2 (.cons (.v 0) (.cons (.v 3) .nil))) .nil))) (.cons (.ite (.and (.cmp .NotEq (.v 10) (.v 11)) (.cmp .Lt (.bi .len (.cons (.v 5) .nil)) (.k (.int 9)))) (.cons (.setI (.v 5) (.tup (.cons (.bi .min (.cons (.v 10) (.cons (.v 11) .nil))) (.cons (.bi .max (.cons (.v 10) (.cons (.v 11) .nil))) .nil))) (.k (.bool true))) .nil) .nil) .nil))) (.cons (.asg (.nm 8) (.call 24 (.cons (.v 0) (.cons (.bi .listRange (.cons (.v 3) .nil)) .nil)))) (.cons (.asg (.nm 9) (.lc (.bi .tuple (.cons (.bi .sorted (.cons (.tup (.cons (.sub (.v 4) (.sub (.v 8) (.v 10))) (.cons (.sub (.v 4) (.sub (.v 8) (.v 11))) .nil))) .nil)) .nil)) (.mk (.tp [10, 11]) (.e (.bi .list (.cons (.v 5) .nil))) .no) [10, 11])) (.cons (.ret (.tup (.cons (.v 4) (.cons (.bi .tuple (.cons (.bi .sorted (.cons (.v 9) .nil)) .nil)) .nil)))) .nil))))))), false, none⟩
/-- k01,k04,k06,k07,k08,k09,k10,k11,k12,k14,k15,k16,k17,k18,k19,k20,k23,k24 -/
def fd__law_made : FnD := ⟨"_law_made", 1, ["parts"], (.cons (.ret (.make 10 "Web" (.cons (.sub (.v 0) (.k (.int 0))) (.cons (.sub (.v 0) (.k (.int 1))) .nil)))) .nil), false, none⟩
/-- k01,k04,k06,k07,k09,k10,k11,k15,k16,k17,k18,k19,k23 -/
def fd__law_near : FnD := ⟨"_law_near", 1, ["parts", "found", "one", "two", "place"], (.cons (.asg (.nm 1) (.freshD 4 (.sub (.v 0) (.k (.int 0))))) (.cons (.for (.tp [2, 3]) (.e (.sub (.v 0) (.k (.int 1)))) (.cons (.ex (.me .append (.subR (.v 1) (.v 2)) (.cons (.v 3) .nil))) (.cons (.ex (.me .append (.subR (.v 1) (.v 3)) (.cons (.v 2) .nil))) .nil))) (.cons (.ret (.dictOf (.lc (.tup (.cons (.v 4) (.cons (.bi .sorted (.cons (.subR (.v 1) (.v 4)) .nil)) .nil))) (.mk (.nm 4) (.e (.sub (.v 0) (.k (.int 0)))) .no) [4]))) .nil))), false, none⟩
/-- k01,k04,k06,k07,k09,k10,k11,k15,k16,k17,k18,k19,k23 -/
def fd__law_ways : FnD := ⟨"_law_ways", 3, ["parts", "one", "other", "near", "rows", "found", "new", "row", "place"], (.cons (.par [3, 4, 5] (.cons (.call 30 (.cons (.v 0) .nil)) (.cons (.lst (.cons (.tup (.cons (.v 1) .nil)) .nil)) (.cons (.lst .nil) .nil)))) (.cons (.whl (.cmp .NotEq (.v 4) (.lst .nil)) (.cons (.asg (.nm 6) (.lst .nil)) (.cons (.for (.nm 7) (.e (.v 4)) (.cons (.asg (.nm 6) (.bin .Add (.v 6) (.lc (.bin .Add (.v 7) (.tup (.cons (.v 8) .nil))) (.mk (.nm 8) (.e (.sub (.v 3) (.sub (.v 7) (.neg (.k (.int 1)))))) (.so (.cmp .NotIn (.v 8) (.v 7)))) [8]))) .nil)) (.cons (.asg (.nm 4) (.lc (.v 7) (.mk (.nm 7) (.e (.v 6)) (.so (.cmp .NotEq (.sub (.v 7) (.neg (.k (.int 1)))) (.v 2)))) [7])) (.cons (.asg (.nm 5) (.bin .Add (.v 5) (.bi .sorted (.cons (.lc (.v 7) (.mk (.nm 7) (.e (.v 6)) (.so (.cmp .Eq (.sub (.v 7) (.neg (.k (.int 1)))) (.v 2)))) [7]) .nil)))) .nil))))) (.cons (.ret (.v 5)) .nil))), false, none⟩
/-- k04 -/
def fd__law_right_k04 : FnD := ⟨"_law_right", 1, ["well", "parts", "web", "pairs", "one", "other", "due", "back", "lap", "way"], (.cons (.asg (.nm 1) (.call 28 (.cons (.v 0) (.cons (.k (.int 2)) (.cons (.k (.int 6)) .nil))))) (.cons (.par [2, 3] (.cons (.call 29 (.cons (.v 1) .nil)) (.cons (.call 33 (.cons (.sub (.v 1) (.k (.int 0))) .nil)) .nil))) (.cons (.for (.tp [4, 5]) (.e (.lc (.call 23 (.cons (.v 0) (.cons (.v 3) .nil))) (.mk (.nm 8) (.r1 (.k (.int 3))) .no) [8])) (.cons (.asg (.nm 6) (.bi .tuple (.cons (.call 31 (.cons (.v 1) (.cons (.v 4) (.cons (.v 5) .nil)))) .nil))) (.cons (.ite (.nt (.call 3 (.cons (.tup (.cons (.call 40 (.cons (.v 2) (.cons (.v 4) (.cons (.v 5) .nil)))) (.cons (.callK 40 (.cons (.v 5) (.cons (.v 4) (.cons (.v 2) .nil)))) .nil))) (.cons (.tup (.cons (.v 6) (.cons (.v 6) .nil))) .nil)))) (.cons (.ret (.k (.bool false))) .nil) .nil) (.cons (.asg (.nm 7) (.bi .tuple (.cons (.call 31 (.cons (.v 1) (.cons (.v 5) (.cons (.v 4) .nil)))) .nil))) (.cons (.ite (.or (.nt (.call 3 (.cons (.call 40 (.cons (.v 2) (.cons (.v 5) (.cons (.v 4) .nil)))) (.cons (.v 7) .nil)))) (.cmp .NotEq (.bi .sorted (.cons (.lc (.rev (.v 9)) (.mk (.nm 9) (.e (.v 7)) .no) [9]) .nil)) (.bi .sorted (.cons (.v 6) .nil)))) (.cons (.ret (.k (.bool false))) .nil) .nil) .nil))))) (.cons (.ret (.k (.bool true))) .nil)))), false, none⟩
/-- k01,k02,k03,k04,k06,k07,k08,k09,k10,k11,k12,k14,k15,k16,k17,k18,k19,k20,k23,k24 -/
def fd_wrong_in_places_lam : FnD := ⟨"wrong_in_places.<lambda>", 2, ["ahead", "each"], (.cons (.ret (.and (.call 13 (.cons (.v 1) .nil)) (.call 17 (.cons (.v 0) (.cons (.v 1) .nil))))) .nil), false, none⟩
/-- k01,k02,k03,k04,k06,k07,k08,k09,k10,k11,k12,k14,k15,k16,k17,k18,k19,k20,k23,k24 -/
def fd_wrong_in_ties_lam : FnD := ⟨"wrong_in_ties.<lambda>", 3, ["places", "ahead", "each"], (.cons (.ret (.and (.call 19 (.cons (.v 0) (.cons (.v 2) .nil))) (.call 17 (.cons (.v 1) (.cons (.v 2) .nil))))) .nil), false, none⟩
/-- k02,k03,k04,k06,k07,k09,k10,k11,k12,k15,k16,k17,k18,k19,k20,k23 -/
def fd__law_pairs : FnD := ⟨"_law_pairs", 1, ["places", "found", "k", "other"], (.cons (.asg (.nm 1) (.lst .nil)) (.cons (.for (.nm 2) (.r1 (.bi .len (.cons (.v 0) .nil))) (.cons (.asg (.nm 1) (.bin .Add (.v 1) (.lc (.tup (.cons (.sub (.v 0) (.v 2)) (.cons (.v 3) .nil))) (.mk (.nm 3) (.e (.slc (.v 0) (.so (.bin .Add (.v 2) (.k (.int 1)))) .no)) .no) [3]))) .nil)) (.cons (.ret (.v 1)) .nil))), false, none⟩
/-- k04,k06,k07,k08,k10,k11,k12,k14,k15,k16,k17,k18,k19,k20,k23,k24 -/
def fd_ways_between : FnD := ⟨"ways_between", 3, ["web", "one", "other", "found", "line", "way", "there"], (.cons (.par [3, 4] (.cons (.own .nil) (.cons (.own (.cons (.tup (.cons (.v 1) .nil)) .nil)) .nil))) (.cons (.whl (.cmp .NotEq (.v 4) (.lst .nil)) (.cons (.asg (.nm 5) (.me .pop (.v 4) .nil)) (.cons (.ite (.cmp .Eq (.sub (.v 5) (.neg (.k (.int 1)))) (.v 2)) (.cons (.ex (.me .append (.v 3) (.cons (.v 5) .nil))) .nil) (.cons (.ex (.me .extend (.v 4) (.cons (.lc (.tup (.star (.v 5) (.cons (.v 6) .nil))) (.mk (.nm 6) (.e (.call 21 (.cons (.att (.v 0) "ties") (.cons (.sub (.v 5) (.neg (.k (.int 1)))) .nil)))) (.so (.cmp .NotIn (.v 6) (.v 5)))) [6]) .nil))) .nil)) .nil))) (.cons (.ret (.srt (.v 3))) .nil))), false, none⟩
/-- k04,k06,k07,k08,k09,k10,k11,k12,k14,k15,k16,k17,k18,k19,k20,k23,k24 -/
def fd_check_web : FnD := ⟨"check_web", 1, ["web"], (.cons (.ite (.nt (.bi (.isinst "Web") (.cons (.v 0) .nil))) (.cons .never .nil) .nil) .nil), false, none⟩
/-- k04,k06,k07,k08,k10,k14,k16,k20,k23 -/
def fd_check_place : FnD := ⟨"check_place", 2, ["web", "place"], (.cons (.ex (.call 37 (.cons (.v 0) .nil))) (.cons (.ite (.nt (.call 11 (.cons (.v 1) (.cons (.att (.v 0) "places") .nil)))) (.cons .never .nil) .nil) .nil)), false, none⟩
/-- k04,k06,k07,k08,k10,k14,k23 -/
def fd_check_two : FnD := ⟨"check_two", 3, ["web", "one", "other"], (.cons (.ex (.call 38 (.cons (.v 0) (.cons (.v 1) .nil)))) (.cons (.ex (.call 38 (.cons (.v 0) (.cons (.v 2) .nil)))) (.cons (.ite (.cmp .Eq (.v 1) (.v 2)) (.cons .never .nil) .nil) .nil))), false, none⟩
/-- k04,k06,k07,k08 -/
def fd_all_ways : FnD := ⟨"all_ways", 3, ["web", "one", "other"], (.cons (.ex (.call 39 (.cons (.v 0) (.cons (.v 1) (.cons (.v 2) .nil))))) (.cons (.ret (.bi .tuple (.cons (.call 36 (.cons (.v 0) (.cons (.v 1) (.cons (.v 2) .nil)))) .nil))) .nil)), false, none⟩
def FN_k04 : Nat → Option FnD
  | 1 => some fd__law_well
  | 2 => some fd__law_draw
  | 3 => some fd__law_same
  | 8 => some fd__law_right_k04
  | 9 => some fd_law_k04
  | 10 => some fd_Web_init
  | 11 => some fd_is_one_of
  | 12 => some fd_is_word
  | 13 => some fd_is_name
  | 14 => some fd_is_tuple_of
  | 15 => some fd_is_pair
  | 16 => some fd_wrong_in
  | 17 => some fd_are_below
  | 18 => some fd_wrong_in_places
  | 19 => some fd_is_tie_of
  | 20 => some fd_wrong_in_ties
  | 21 => some fd_beside
  | 22 => some fd_do_hang
  | 23 => some fd__law_of
  | 24 => some fd__law_shuffled
  | 25 => some fd__law_words
  | 27 => some fd__law_names_k03
  | 28 => some fd__law_web
  | 29 => some fd__law_made
  | 30 => some fd__law_near
  | 31 => some fd__law_ways
  | 33 => some fd__law_pairs
  | 36 => some fd_ways_between
  | 37 => some fd_check_web
  | 38 => some fd_check_place
  | 39 => some fd_check_two
  | 40 => some fd_all_ways
  | 152 => some fd_wrong_in_places_lam
  | 153 => some fd_wrong_in_ties_lam
  | _ => none
end RW
set_option Elab.async false
set_option linter.all false
set_option maxRecDepth 100000
namespace RW
open PySem PySem.W
/-! evaluation lemmas of the interpreter -/
theorem callN_run {FN : Nat → Option FnD} {fu : Option Nat} {n f : Nat} {fd : FnD} {ws : List W} {S : Sto} (h : FN f = some fd) (hn : fd.nat = none) : callN FN fu (n + 1) f ws S = runF (callN FN fu n) fu fd ws S := by
  show ob (FN f) _ = _
  rw [h]
  show (match fd.nat with
    | some g => _
    | none => _) = _
  rw [hn]
theorem callN_nat {FN : Nat → Option FnD} {fu : Option Nat} {n f : Nat} {fd : FnD} {g : List D → Option D} {ws : List W} {S : Sto} (h : FN f = some fd) (hn : fd.nat = some g) : callN FN fu (n + 1) f ws S = ob (pds ws) fun xs => (g xs).map fun y => (.d y, S) := by
  show ob (FN f) _ = _
  rw [h]
  show (match fd.nat with
    | some g => _
    | none => _) = _
  rw [hn]
/-! lists -/
theorem nodup_len {α : Type} [DecidableEq α] : ∀ {l1 l2 : List α}, l1.Nodup → (∀ x ∈ l1, x ∈ l2) → l1.length ≤ l2.length
  | [], _, _, _ => Nat.zero_le _
  | x :: l1, l2, nd, h => by
    rw [List.nodup_cons] at nd
    have hx : x ∈ l2 := h x (by simp)
    have := nodup_len (l1 := l1) (l2 := l2.erase x) nd.2 fun y hy => (List.mem_erase_of_ne fun e => nd.1 (by rw [← e]; exact hy)).mpr (h y (by simp [hy]))
    rw [List.length_erase_of_mem hx] at this
    have := List.length_pos_of_mem hx
    simp
    omega
theorem nodup_full {α : Type} [DecidableEq α] {l1 l2 : List α} (nd : l1.Nodup) (h : ∀ x ∈ l1, x ∈ l2) (hl : l2.length ≤ l1.length) : ∀ x ∈ l2, x ∈ l1 := fun x hx => by
  refine Classical.byContradiction fun hn => ?_
  have := nodup_len (l1 := x :: l1) (l2 := l2) (List.nodup_cons.mpr ⟨hn, nd⟩) fun y hy => by
    rcases List.mem_cons.mp hy with rfl | hy
    · exact hx
    · exact h y hy
  simp at this
  omega
/-! loops -/
section
variable {α : Type} {g : W → Env1 → Option Env1} {b : Env1 → Sto → Option ((Fl × Env1) × Sto)}
theorem forR_nx (enc : α → D) (I : List α → Env1 → Sto → Prop) (step : ∀ x r e S, I (x :: r) e S → ∃ e1 e2 S', g (.d (enc x)) e = some e1 ∧ b e1 S = some ((.nx, e2), S') ∧ I r e2 S') :
    ∀ (xs : List α) (e : Env1) (S : Sto), I xs e S → ∃ e' S', forR g b (xs.map enc) e S = some ((.nx, e'), S') ∧ I [] e' S'
  | [], e, S, h => ⟨e, S, rfl, h⟩
  | x :: xs, e, S, h => by
    obtain ⟨e1, e2, S', h1, h2, h3⟩ := step x xs e S h
    obtain ⟨e', S'', h4, h5⟩ := forR_nx enc I step xs e2 S' h3
    refine ⟨e', S'', ?_, h5⟩
    rw [List.map_cons, forR, h1]
    show bd (b e1 S) _ = _
    rw [h2]
    exact h4
/-- .. or it returns -/
theorem forR_rt (enc : α → D) (I : List α → Env1 → Sto → Prop) (P : W → Env1 → Sto → Prop)
    (step : ∀ x r e S, I (x :: r) e S → ∃ e1 fl e2 S', g (.d (enc x)) e = some e1 ∧ b e1 S = some ((fl, e2), S') ∧ ((fl = .nx ∧ I r e2 S') ∨ ∃ w, fl = .rt w ∧ P w e2 S')) :
    ∀ (xs : List α) (e : Env1) (S : Sto), I xs e S → ∃ fl e' S', forR g b (xs.map enc) e S = some ((fl, e'), S') ∧ ((fl = .nx ∧ I [] e' S') ∨ ∃ w, fl = .rt w ∧ P w e' S')
  | [], e, S, h => ⟨.nx, e, S, rfl, .inl ⟨rfl, h⟩⟩
  | x :: xs, e, S, h => by
    obtain ⟨e1, fl, e2, S', h1, h2, h3⟩ := step x xs e S h
    rcases h3 with ⟨rfl, h3⟩ | ⟨w, rfl, h3⟩
    · obtain ⟨fl, e', S'', h4, h5⟩ := forR_rt enc I P step xs e2 S' h3
      refine ⟨fl, e', S'', ?_, h5⟩
      rw [List.map_cons, forR, h1]
      show bd (b e1 S) _ = _
      rw [h2]
      exact h4
    · refine ⟨.rt w, e2, S', ?_, .inr ⟨w, rfl, h3⟩⟩
      rw [List.map_cons, forR, h1]
      show bd (b e1 S) _ = _
      rw [h2]
      rfl
end
section
variable {α : Type} {a : W → Option Env1} {ts : Env1 → Sto → Option (Bool × Sto)} {el : Env1 → Sto → Option (W × Sto)}
/-- a comprehension that changes nothing -/
theorem lcR_pure (enc : α → D) (S : Sto) (c : α → Bool) (f : α → W) (xs : List α) (step : ∀ x, x ∈ xs → ∃ e, a (.d (enc x)) = some e ∧ ts e S = some (c x, S) ∧ (c x = true → el e S = some (f x, S))) :
    lcR a ts el (xs.map enc) S = some ((xs.filter c).map f, S) := by
  induction xs with
  | nil => rfl
  | cons x xs ih =>
    obtain ⟨e, h1, h2, h3⟩ := step x (by simp)
    have ih := ih fun y hy => step y (by simp [hy])
    rw [List.map_cons, lcR, h1]
    show bd (ts e S) _ = _
    rw [h2]
    cases hc : c x with
    | true =>
      show bd (el e S) _ = _
      rw [h3 hc]
      show bd (lcR a ts el (xs.map enc) S) _ = _
      rw [ih, List.filter_cons_of_pos hc]
      rfl
    | false =>
      show lcR a ts el (xs.map enc) S = _
      rw [ih, List.filter_cons_of_neg (by simp [hc])]
/-- a comprehension whose elements change the store -/
theorem lcR_inv (enc : α → D) (I : List α → List W → Sto → Prop) (step : ∀ x r ws S, I (x :: r) ws S → ∃ e w S', a (.d (enc x)) = some e ∧ ts e S = some (true, S) ∧ el e S = some (w, S') ∧ I r (ws ++ [w]) S') :
    ∀ (xs : List α) (ws : List W) (S : Sto), I xs ws S → ∃ ws' S', lcR a ts el (xs.map enc) S = some (ws', S') ∧ I [] (ws ++ ws') S'
  | [], ws, S, h => ⟨[], S, rfl, by simpa using h⟩
  | x :: xs, ws, S, h => by
    obtain ⟨e, w, S', h1, h2, h3, h4⟩ := step x xs ws S h
    obtain ⟨ws', S'', h5, h6⟩ := lcR_inv enc I step xs (ws ++ [w]) S' h4
    refine ⟨w :: ws', S'', ?_, by simpa using h6⟩
    rw [List.map_cons, lcR, h1]
    show bd (ts e S) _ = _
    rw [h2]
    show bd (el e S) _ = _
    rw [h3]
    show bd (lcR a ts el (xs.map enc) S') _ = _
    rw [h5]
    rfl
end
section
variable {t : Env1 → Sto → Option (Bool × Sto)} {body : Env1 → Sto → Option ((Fl × Env1) × Sto)}
theorem whlR_more : ∀ {n m : Nat} {e : Env1} {S : Sto} {r}, n ≤ m → whlR t body n e S = some r → whlR t body m e S = some r
  | 0, m, e, S, r, _, h => by cases h
  | n + 1, 0, e, S, r, hl, h => absurd hl (by omega)
  | n + 1, m + 1, e, S, r, hl, h => by
    rw [whlR] at h ⊢
    cases ht : t e S with
    | none => rw [ht] at h; cases h
    | some p =>
      obtain ⟨b, S1⟩ := p
      rw [ht] at h
      cases b with
      | false => exact h
      | true =>
        have h : bd (body e S1) _ = some r := h
        show bd (body e S1) _ = some r
        cases hb : body e S1 with
        | none => rw [hb] at h; cases h
        | some q =>
          obtain ⟨⟨fl, e2⟩, S2⟩ := q
          rw [hb] at h
          cases fl with
          | nx => exact whlR_more (by omega) h
          | ct => exact whlR_more (by omega) h
          | bk => exact h
          | rt w => exact h
theorem whlC_of {n : Nat} {e : Env1} {S : Sto} {r} (h : whlR t body n e S = some r) : whlC t body e S = some r := by
  have hx : ∃ n, (whlR t body n e S).isSome := ⟨n, by rw [h]; rfl⟩
  unfold whlC
  rw [dif_pos hx]
  have hc := Classical.choose_spec hx
  generalize Classical.choose hx = m at hc
  cases hm : whlR t body m e S with
  | none => rw [hm] at hc; cases hc
  | some q =>
    rcases Nat.le_total n m with hl | hl
    · rw [whlR_more hl h] at hm; exact hm.symm
    · rw [whlR_more hl hm] at h; exact h
/-- a while by a measure -/
theorem whlC_inv (I : Nat → Env1 → Sto → Prop) (P : Env1 → Sto → Prop)
    (step : ∀ m e S, I m e S → (∃ S1, t e S = some (false, S1) ∧ P e S1) ∨ ∃ S1 e2 S2 m', t e S = some (true, S1) ∧ body e S1 = some ((.nx, e2), S2) ∧ m' < m ∧ I m' e2 S2) (m : Nat) (e : Env1) (S : Sto) (h : I m e S) :
    ∃ e' S', whlC t body e S = some ((.nx, e'), S') ∧ P e' S' := by
  have key : ∀ (k m : Nat), m < k → ∀ e S, I m e S → ∃ n e' S', whlR t body n e S = some ((.nx, e'), S') ∧ P e' S' := by
    intro k
    induction k with
    | zero => intro m hm; omega
    | succ k ih =>
      intro m hm e S h
      rcases step m e S h with ⟨S1, h1, h2⟩ | ⟨S1, e2, S2, m', h1, h2, h3, h4⟩
      · refine ⟨1, e, S1, ?_, h2⟩
        rw [whlR, h1]; rfl
      · obtain ⟨n, e', S', h5, h6⟩ := ih m' (by omega) e2 S2 h4
        refine ⟨n + 1, e', S', ?_, h6⟩
        rw [whlR, h1]
        show bd (body e S1) _ = _
        rw [h2]
        exact h5
  obtain ⟨n, e', S', h1, h2⟩ := key (m + 1) m (by omega) e S h
  exact ⟨e', S', whlC_of h1, h2⟩
end
end RW
set_option Elab.async false
set_option linter.all false
set_option maxRecDepth 100000
namespace RW
open PySem PySem.W
section
variable {call : Call} {fu : Option Nat} {e : Env1} {S : Sto}
@[simp] theorem ev_v {i : Nat} : evE call (.v i) e S = (slot e i).map fun w => (w, S) := by simp only [evE]
@[simp] theorem ev_k {x : D} : evE call (.k x) e S = some (.d x, S) := by simp only [evE]
@[simp] theorem ev_g {x : Str} : evE call (.g x) e S = (GV x).map fun y => (.d y, S) := by simp only [evE]
@[simp] theorem ev_fn {f : Nat} : evE call (.fn f) e S = some (.d (fnD f), S) := by simp only [evE]
@[simp] theorem ev_bin {o : Operator} {a b : E} : evE call (.bin o a b) e S = bd (evE call a e S) fun x S => bd (evE call b e S) fun y S => ob (rd S x) fun x => ob (rd S y) fun y => (binD o x y).map fun z => (.d z, S) := by simp only [evE]
def negW (x : W) (S : Sto) : Option (W × Sto) := match x with
    | .d (.int i) => some (.d (.int (-i)), S)
    | _ => none
@[simp] theorem negW_i {i : Int} : negW (.d (.int i)) S = some (.d (.int (-i)), S) := rfl
@[simp] theorem ev_neg {a : E} : evE call (.neg a) e S = bd (evE call a e S) negW := by simp only [evE]; rfl
@[simp] theorem ev_nt {a : E} : evE call (.nt a) e S = bd (tb (evE call a e S)) fun b S => some (.d (.bool (!b)), S) := by simp only [evE]
def andV (m : Sto → Option (W × Sto)) (x : W) (S : Sto) : Option (W × Sto) := match x with
    | .d (.bool true) => m S
    | .d (.bool false) => some (.d (.bool false), S)
    | _ => none
def orV (m : Sto → Option (W × Sto)) (x : W) (S : Sto) : Option (W × Sto) := match x with
    | .d (.bool false) => m S
    | .d (.bool true) => some (.d (.bool true), S)
    | _ => none
@[simp] theorem ev_and {a b : E} : evE call (.and a b) e S = bd (evE call a e S) (andV fun S => evE call b e S) := by simp only [evE]; rfl
@[simp] theorem ev_or {a b : E} : evE call (.or a b) e S = bd (evE call a e S) (orV fun S => evE call b e S) := by simp only [evE]; rfl
@[simp] theorem andW_t {m} : andV m (.d (.bool true)) S = m S := rfl
@[simp] theorem andW_f {m} : andV m (.d (.bool false)) S = some (.d (.bool false), S) := rfl
@[simp] theorem orW_f {m} : orV m (.d (.bool false)) S = m S := rfl
@[simp] theorem orW_t {m} : orV m (.d (.bool true)) S = some (.d (.bool true), S) := rfl
@[simp] theorem andW_c {x y : Bool} : andV (fun S => some (.d (.bool y), S)) (.d (.bool x)) S = some (.d (.bool (x && y)), S) := by cases x <;> rfl
@[simp] theorem orW_c {x y : Bool} : orV (fun S => some (.d (.bool y), S)) (.d (.bool x)) S = some (.d (.bool (x || y)), S) := by cases x <;> rfl
theorem andW_b {m} {x y : Bool} (h : x = true → m S = some (.d (.bool y), S)) : andV m (.d (.bool x)) S = some (.d (.bool (x && y)), S) := by
  cases x with
  | true => exact h rfl
  | false => rfl
theorem orW_b {m} {x y : Bool} (h : x = false → m S = some (.d (.bool y), S)) : orV m (.d (.bool x)) S = some (.d (.bool (x || y)), S) := by
  cases x with
  | true => rfl
  | false => exact h rfl
def iteW {β : Type} (m1 m2 : Sto → Option β) (c : Bool) (S : Sto) : Option β := match c with
    | true => m1 S
    | false => m2 S
@[simp] theorem iteW_t {β : Type} {m1 m2 : Sto → Option β} : iteW m1 m2 true S = m1 S := rfl
@[simp] theorem iteW_f {β : Type} {m1 m2 : Sto → Option β} : iteW m1 m2 false S = m2 S := rfl
@[simp] theorem ev_ite {t a b : E} : evE call (.ite t a b) e S = bd (tb (evE call t e S)) (iteW (fun S => evE call a e S) (fun S => evE call b e S)) := by simp only [evE]; rfl
@[simp] theorem ev_cmp {o : CmpOp} {a b : E} : evE call (.cmp o a b) e S = bd (evE call a e S) fun x S => bd (evE call b e S) fun y S => (cmpW o S x y).map fun z => (.d (.bool z), S) := by simp only [evE]
@[simp] theorem ev_tup {es : Es} : evE call (.tup es) e S = bd (evEs call es e S) fun ws S => ob (pds ws) fun xs => if lim xs.length then some (.d (.tuple xs), S) else none := by simp only [evE]
@[simp] theorem ev_lst {es : Es} : evE call (.lst es) e S = bd (evEs call es e S) fun ws S => ob (pds ws) fun xs => if lim xs.length then some (.d (.list xs), S) else none := by simp only [evE]
@[simp] theorem ev_own {es : Es} : evE call (.own es) e S = bd (evEs call es e S) fun ws S => ob (pds ws) fun xs => if lim xs.length then freshI S (.lst xs) else none := by simp only [evE]
@[simp] theorem ev_dic0 {t : Bool} : evE call (.dic0 t) e S = freshI S (.dct t []) := by simp only [evE]
@[simp] theorem ev_dic1 {a b : E} : evE call (.dic1 a b) e S = bd (evE call a e S) fun x S => bd (evE call b e S) fun y S => ob (pd x) fun x => ob (pd y) fun y => if keyA x then freshI S (.dct false [(x, y)]) else none := by simp only [evE]
def subVV (x y : W) (S : Sto) : Option (W × Sto) := match x, y with
    | .refs l, .d (.int j) => ob (ixD l.length j) fun j => (l[j]?).map fun r => (.ref r, S)
    | .scr l, .d (.int j) => ob (ixD l.length j) fun j => (l[j]?).map fun r => (.d (.int r), S)
    | x, y => (subW S x y).map fun z => (.d z, S)
@[simp] theorem ev_sub {a i : E} : evE call (.sub a i) e S = bd (evE call a e S) fun x S => bd (evE call i e S) fun y S => subVV x y S := by simp only [evE]; rfl
@[simp] theorem ev_slc {a : E} {lo hi : Eo} : evE call (.slc a lo hi) e S = bd (evE call a e S) fun x S => bd (evO call lo e S) fun i S => bd (evO call hi e S) fun j S => ob (rdS S x) fun x => (slcD x i j).map fun z => (.d z, S) := by simp only [evE]
@[simp] theorem ev_rev {a : E} : evE call (.rev a) e S = bd (evE call a e S) fun x S => ob (pd x) fun x => (revD x).map fun z => (.d z, S) := by simp only [evE]
@[simp] theorem ev_att {a : E} {f : Str} : evE call (.att a f) e S = bd (evE call a e S) fun x S => ob (pd x) fun x => (attD x f).map fun z => (.d z, S) := by simp only [evE]
@[simp] theorem ev_call {f : Nat} {es : Es} : evE call (.call f es) e S = bd (evEs call es e S) fun ws S => if noClo ws then call f ws S else none := by simp only [evE]
@[simp] theorem ev_callK {f : Nat} {es : Es} : evE call (.callK f es) e S = bd (evEs call es e S) fun ws S => if noClo ws then call f ws.reverse S else none := by simp only [evE]
@[simp] theorem ev_make {f : Nat} {c : Str} {es : Es} : evE call (.make f c es) e S = bd (evEs call es e S) fun ws S => if noClo ws then mkI call f c ws S else none := by simp only [evE]
@[simp] theorem ev_makeK {f : Nat} {c : Str} {es : Es} : evE call (.makeK f c es) e S = bd (evEs call es e S) fun ws S => if noClo ws then mkI call f c ws.reverse S else none := by simp only [evE]
@[simp] theorem ev_callV {i : Nat} {es : Es} : evE call (.callV i es) e S = ob (slot e i) fun w => bd (evEs call es e S) fun ws S => if noClo ws then callV call w ws S else none := by simp only [evE]
@[simp] theorem ev_callL {f l : Nat} {es : Es} {cs : List Nat} : evE call (.callL f es l cs) e S = bd (evEs call es e S) fun ws S => if noClo ws then (ob (caps e cs) fun xs => if xs.all capD then call f (ws ++ [.clo l xs]) S else none) else none := by simp only [evE]
def biWW (b : Bi) (ws : List W) (S : Sto) : Option (W × Sto) := match b, ws with
    | .len, [.refs l] => some (.d (.int l.length), S)
    | .len, [.scr l] => some (.d (.int l.length), S)
    | b, ws => ob (ws.mapM (rd S)) fun xs => (biD b xs).map fun z => (.d z, S)
@[simp] theorem ev_bi {b : Bi} {es : Es} : evE call (.bi b es) e S = bd (evEs call es e S) fun ws S => biWW b ws S := by simp only [evE]; rfl
@[simp] theorem ev_me {m : Me} {a : E} {es : Es} : evE call (.me m a es) e S = bd (evE call a e S) fun x S => if meTy m S x then bd (evEs call es e S) fun ws S => meW m S x ws else none := by simp only [evE]
def ownW (x : W) (S : Sto) : Option (W × Sto) := match x with
    | .d (.list xs) => freshI S (.lst xs)
    | .d (.tuple xs) => freshI S (.lst xs)
    | _ => none
@[simp] theorem ownW_l {xs : List D} : ownW (.d (.list xs)) S = freshI S (.lst xs) := rfl
@[simp] theorem ownW_t {xs : List D} : ownW (.d (.tuple xs)) S = freshI S (.lst xs) := rfl
@[simp] theorem ev_freshD {i : Nat} {a : E} : evE call (.freshD i a) e S = bd (evE call a e S) fun x S => if i < e.length then freshDW x S else none := by simp only [evE]
@[simp] theorem ev_dictOf {a : E} : evE call (.dictOf a) e S = bd (evE call a e S) dictW := by simp only [evE]
@[simp] theorem ev_subR {a b : E} : evE call (.subR a b) e S = bd (evE call a e S) fun x S => bd (evE call b e S) fun y S => subRW x y S := by simp only [evE]
@[simp] theorem ev_ownList {a : E} : evE call (.ownList a) e S = bd (evE call a e S) ownW := by simp only [evE]; rfl
def srtW (x : W) (S : Sto) : Option (W × Sto) := ob (rd S x) fun x => match x with
    | .list xs => ob (sortKeyLen xs) fun ks => if sortOk ks && xs.all tupA then some (.d (.list (xs.mergeSort (dataLe false fun x => .tuple [.int ((lenD x).getD 0), x]))), S) else none
    | _ => none
@[simp] theorem ev_srt {a : E} : evE call (.srt a) e S = bd (evE call a e S) srtW := by simp only [evE]; rfl
theorem ev_lc {elt : E} {t : Tg} {it : RW.It} {ifs : Eo} {own : List Nat} : evE call (.lc elt (.mk t it ifs) own) e S = bd (evI call it e S) fun xs S => bd (lcR (fun w => asgT (wipe1 e own) t w) (fun e S => evO' call ifs e S) (fun e S => evE call elt e S) xs S) fun ws S => (mkL ws).map fun w => (w, S) := by simp only [evE]
def frzW (w : Option W) (S : Sto) : Option (W × Sto) := match w with
    | some (.ref j) => match S[j]? with
      | some (.lst xs) => some (.d (.list xs), S.set j .dead)
      | _ => none
    | some (.d x) => some (.d x, S)
    | _ => none
@[simp] theorem frzW_d {x : D} : frzW (some (.d x)) S = some (.d x, S) := rfl
@[simp] theorem ev_frz {i : Nat} : evE call (.frz i) e S = frzW (slot e i) S := by simp only [evE]; rfl
@[simp] theorem ev_nil : evEs call .nil e S = some ([], S) := by simp only [evEs]
@[simp] theorem ev_cons {a : E} {r : Es} : evEs call (.cons a r) e S = bd (evE call a e S) fun x S => bd (evEs call r e S) fun xs S => some (x :: xs, S) := by simp only [evEs]
def starV (m : Sto → Option (List W × Sto)) (x : W) (S : Sto) : Option (List W × Sto) := match x with
    | .d (.tuple ys) => bd (m S) fun xs S => some (ys.map .d ++ xs, S)
    | .d (.list ys) => bd (m S) fun xs S => some (ys.map .d ++ xs, S)
    | _ => none
@[simp] theorem starW_t {m} {ys : List D} : starV m (.d (.tuple ys)) S = bd (m S) fun xs S => some (ys.map .d ++ xs, S) := rfl
@[simp] theorem ev_star {a : E} {r : Es} : evEs call (.star a r) e S = bd (evE call a e S) (starV fun S => evEs call r e S) := by simp only [evEs]; rfl
@[simp] theorem ev_no : evO call .no e S = some (none, S) := by simp only [evO]
def soW (x : W) (S : Sto) : Option (Option D × Sto) := match x with
    | .d (.int i) => some (some (.int i), S)
    | _ => none
@[simp] theorem soW_i {i : Int} : soW (.d (.int i)) S = some (some (.int i), S) := rfl
@[simp] theorem ev_so {a : E} : evO call (.so a) e S = bd (evE call a e S) soW := by simp only [evO]; rfl
@[simp] theorem ev_no' : evO' call .no e S = some (true, S) := by simp only [evO']
@[simp] theorem ev_so' {a : E} : evO' call (.so a) e S = tb (evE call a e S) := by simp only [evO']
def itW' (x : W) (S : Sto) : Option (List D × Sto) := match x with
    | .d (.list xs) => some (xs, S)
    | .d (.tuple xs) => some (xs, S)
    | .d (.str z) => some (z.cps.toList.map fun c => .str ⟨#[c]⟩, S)
    | _ => none
@[simp] theorem itW'_l {xs : List D} : itW' (.d (.list xs)) S = some (xs, S) := rfl
@[simp] theorem itW'_t {xs : List D} : itW' (.d (.tuple xs)) S = some (xs, S) := rfl
@[simp] theorem itW'_s {z : Str} : itW' (.d (.str z)) S = some (z.cps.toList.map fun c => .str ⟨#[c]⟩, S) := rfl
@[simp] theorem ev_ie {a : E} : evI call (.e a) e S = bd (evE call a e S) itW' := by simp only [evI]; rfl
def r1W (x : W) (S : Sto) : Option (List D × Sto) := match x with
    | .d (.int j) => if small62 j then some (rangeL 0 j, S) else none
    | _ => none
@[simp] theorem r1W_i {j : Int} : r1W (.d (.int j)) S = if small62 j then some (rangeL 0 j, S) else none := by cases h : small62 j <;> simp [r1W, h]
@[simp] theorem ev_r1 {a : E} : evI call (.r1 a) e S = bd (evE call a e S) r1W := by simp only [evI]; rfl
def r2W (x y : W) (S : Sto) : Option (List D × Sto) := match x, y with
    | .d (.int i), .d (.int j) => if small62 i && small62 j then some (rangeL i j, S) else none
    | _, _ => none
@[simp] theorem r2W_i {i j : Int} : r2W (.d (.int i)) (.d (.int j)) S = if small62 i && small62 j then some (rangeL i j, S) else none := by cases h : small62 i && small62 j <;> simp only [r2W, h]
@[simp] theorem ev_r2 {a b : E} : evI call (.r2 a b) e S = bd (evE call a e S) fun x S => bd (evE call b e S) fun y S => r2W x y S := by simp only [evI]; rfl
def zipW (x y : W) (S : Sto) : Option (List D × Sto) := match x, y with
    | .d (.tuple xs), .d (.tuple ys) => some ((xs.zip ys).map fun p => .tuple [p.1, p.2], S)
    | .d (.list xs), .d (.list ys) => some ((xs.zip ys).map fun p => .tuple [p.1, p.2], S)
    | _, _ => none
@[simp] theorem ev_zip {a b : E} : evI call (.zip a b) e S = bd (evE call a e S) fun x S => bd (evE call b e S) fun y S => zipW x y S := by simp only [evI]; rfl
def enumW (x : W) (S : Sto) : Option (List D × Sto) := match x with
    | .d (.tuple xs) => some ((xs.zipIdx).map fun p => .tuple [.int p.2, p.1], S)
    | _ => none
@[simp] theorem enumW_t {xs : List D} : enumW (.d (.tuple xs)) S = some ((xs.zipIdx).map fun p => .tuple [.int p.2, p.1], S) := rfl
@[simp] theorem ev_enum {a : E} : evI call (.enum a) e S = bd (evE call a e S) enumW := by simp only [evI]; rfl
/-! statements -/
@[simp] theorem ex_asg {t : Tg} {a : E} : exT call fu (.asg t a) e S = bd (evE call a e S) fun w S => ob (asgT e t w) fun e => some ((.nx, e), S) := by simp only [exT]
@[simp] theorem ex_par {l : List Nat} {es : Es} : exT call fu (.par l es) e S = bd (evEs call es e S) fun ws S => ob (asgW e l ws) fun e => some ((.nx, e), S) := by simp only [exT]
def setIW (x r k : W) (e : Env1) (S : Sto) : Option ((Fl × Env1) × Sto) := match r with
    | .ref n => ob (pd k) fun k => ob (pd x) fun x => ob (setIS S n k x) fun S => some ((.nx, e), S)
    | _ => none
@[simp] theorem setIW_r {x k : W} {n : Nat} : setIW x (.ref n) k e S = ob (pd k) fun k => ob (pd x) fun x => ob (setIS S n k x) fun S => some ((.nx, e), S) := rfl
@[simp] theorem ex_setI {a i b : E} : exT call fu (.setI a i b) e S = bd (evE call b e S) fun x S => bd (evE call a e S) fun r S => bd (evE call i e S) fun k S => setIW x r k e S := by simp only [exT]; rfl
@[simp] theorem ex_ex {a : E} : exT call fu (.ex a) e S = bd (evE call a e S) fun _ S => some ((.nx, e), S) := by simp only [exT]
@[simp] theorem ex_ret {a : E} : exT call fu (.ret a) e S = bd (evE call a e S) fun w S => some ((.rt w, e), S) := by simp only [exT]
@[simp] theorem ex_retN : exT call fu .retN e S = some ((.rt (.d .none), e), S) := by simp only [exT]
@[simp] theorem ex_ite {t : E} {a b : Ts} : exT call fu (.ite t a b) e S = bd (tb (evE call t e S)) (iteW (fun S => exTs call fu a e S) (fun S => exTs call fu b e S)) := by simp only [exT]; rfl
theorem ex_for {t : Tg} {it : RW.It} {b : Ts} : exT call fu (.for t it b) e S = bd (evI call it e S) fun xs S => forR (fun w e => asgT e t w) (fun e S => exTs call fu b e S) xs e S := by simp only [exT]
theorem ex_whl {t : E} {b : Ts} : exT call none (.whl t b) e S = whlC (fun e S => tb (evE call t e S)) (fun e S => exTs call none b e S) e S := by simp only [exT]
@[simp] theorem ex_pass : exT call fu .pass e S = some ((.nx, e), S) := by simp only [exT]
def seqE (m : Env1 → Sto → Option ((Fl × Env1) × Sto)) (p : Fl × Env1) (S : Sto) : Option ((Fl × Env1) × Sto) := match p with
    | (.nx, e) => m e S
    | p => some (p, S)
@[simp] theorem seqE_nx {m} : seqE m (.nx, e) S = m e S := rfl
@[simp] theorem seqE_rt {m} {w : W} : seqE m (.rt w, e) S = some ((.rt w, e), S) := rfl
theorem ex_nil : exTs call fu .nil e S = some ((.nx, e), S) := by simp only [exTs]
theorem ex_cons {t : T} {r : Ts} : exTs call fu (.cons t r) e S = bd (exT call fu t e S) (seqE fun e S => exTs call fu r e S) := by simp only [exTs]; rfl
@[simp] theorem tb_b {b : Bool} : tb (some (.d (.bool b), S)) = some (b, S) := rfl
@[simp] theorem rd_d {x : D} : rd S (.d x) = some x := rfl
@[simp] theorem rdS_d {x : D} : rdS S (.d x) = some x := rfl
@[simp] theorem pd_d {x : D} : pd (.d x) = some x := rfl
@[simp] theorem pds_nil : pds [] = some [] := rfl
@[simp] theorem pds_cons {x : D} {r : List W} : pds (.d x :: r) = (pds r).map (x :: ·) := rfl
theorem pds_map : ∀ xs : List D, pds (xs.map .d) = some xs
  | [] => rfl
  | x :: xs => by rw [List.map_cons, pds_cons, pds_map xs]; rfl
@[simp] theorem noClo_nil : noClo [] = true := rfl
@[simp] theorem noClo_d {x : D} {r : List W} : noClo (.d x :: r) = noClo r := rfl
@[simp] theorem noClo_ref {x : Nat} {r : List W} : noClo (.ref x :: r) = noClo r := rfl
@[simp] theorem noClo_refs {x : List Nat} {r : List W} : noClo (.refs x :: r) = noClo r := rfl
@[simp] theorem noClo_scr {x : List Int} {r : List W} : noClo (.scr x :: r) = noClo r := rfl
@[simp] theorem slot_0 {w : Option W} {e : Env1} : slot (w :: e) 0 = w := by cases w <;> rfl
@[simp] theorem slot_s {w : Option W} {e : Env1} {i : Nat} : slot (w :: e) (i + 1) = slot e i := by unfold slot; rw [List.getElem?_cons_succ]
@[simp] theorem isDct_d {x : D} : isDct S (.d x) = false := rfl
theorem cmpW_d {o : CmpOp} {x y : D} : cmpW o S (.d x) (.d y) = cmpD o x y := by simp [cmpW]
@[simp] theorem subWW_d {x y : D} : subVV (.d x) (.d y) S = (subD x y).map fun z => (.d z, S) := by
  unfold subVV
  simp [subW, isDct]
@[simp] theorem handBack_d {fd : FnD} {n : Nat} {x : D} (h : fd.keep = false) : handBack fd n (.d x) S = some (.d x, S.take n) := by unfold handBack; rw [h]
@[simp] theorem isD_tuple {x : D} (h : isFn x = false) : isD "tuple" x = some x.isTuple := by unfold isD; rw [h]; rfl
theorem mkL_d {α : Type} (l : List α) (f : α → D) (h : l.length ≤ LIM) : mkL (l.map fun x => .d (f x)) = some (.d (.list (l.map f))) := by
  unfold mkL
  have e : (l.map fun x => W.d (f x)) = (l.map f).map .d := by rw [List.map_map]; rfl
  rw [e, pds_map, if_pos]
  rw [lim, decide_eq_true_eq]; simpa using h
/-- a comprehension that changes nothing -/
theorem ev_lcP {α : Type} {elt : E} {t : Tg} {it : RW.It} {ifs : Eo} {own : List Nat} {S1 : Sto} (enc : α → D) (xs : List α) (c : α → Bool) (f : α → D) (hit : evI call it e S = some (xs.map enc, S1)) (hl : xs.length ≤ LIM)
    (step : ∀ x, x ∈ xs → ∃ e1, asgT (wipe1 e own) t (.d (enc x)) = some e1 ∧ evO' call ifs e1 S1 = some (c x, S1) ∧ (c x = true → evE call elt e1 S1 = some (.d (f x), S1))) :
    evE call (.lc elt (.mk t it ifs) own) e S = some (.d (.list ((xs.filter c).map f)), S1) := by
  rw [ev_lc, hit, bd_some, lcR_pure enc S1 c (fun x => .d (f x)) xs step, bd_some, mkL_d]
  · rfl
  · exact Nat.le_trans (List.length_filter_le _ _) hl
/-- .. without a condition -/
theorem ev_lcA {α : Type} {elt : E} {t : Tg} {it : RW.It} {own : List Nat} {S1 : Sto} (enc : α → D) (xs : List α) (f : α → D) (hit : evI call it e S = some (xs.map enc, S1)) (hl : xs.length ≤ LIM)
    (step : ∀ x, x ∈ xs → ∃ e1, asgT (wipe1 e own) t (.d (enc x)) = some e1 ∧ evE call elt e1 S1 = some (.d (f x), S1)) :
    evE call (.lc elt (.mk t it .no) own) e S = some (.d (.list (xs.map f)), S1) := by
  rw [ev_lcP (c := fun _ => true) enc xs f hit hl fun x hx => ?_, List.filter_eq_self.mpr (by simp)]
  obtain ⟨e1, h1, h2⟩ := step x hx
  exact ⟨e1, h1, by rw [ev_no'], fun _ => h2⟩
/-- .. whose elements change the store -/
theorem ev_lcI {α : Type} {elt : E} {t : Tg} {it : RW.It} {own : List Nat} {S1 : Sto} (enc : α → D) (xs : List α) (I : List α → List W → Sto → Prop) (hit : evI call it e S = some (xs.map enc, S1)) (h0 : I xs [] S1)
    (step : ∀ x r ws S, I (x :: r) ws S → ∃ e1 w S', asgT (wipe1 e own) t (.d (enc x)) = some e1 ∧ evE call elt e1 S = some (w, S') ∧ I r (ws ++ [w]) S') :
    ∃ ws S2, I [] ws S2 ∧ evE call (.lc elt (.mk t it .no) own) e S = (mkL ws).map fun w => (w, S2) := by
  obtain ⟨ws, S2, h1, h2⟩ := lcR_inv (a := fun w => asgT (wipe1 e own) t w) (ts := fun e S => evO' call .no e S) (el := fun e S => evE call elt e S) enc I (fun x r ws S h => by
    obtain ⟨e1, w, S', h1, h2, h3⟩ := step x r ws S h
    exact ⟨e1, w, S', h1, by rw [ev_no'], h2, h3⟩) xs [] S1 h0
  refine ⟨ws, S2, by simpa using h2, ?_⟩
  rw [ev_lc, hit, bd_some, h1, bd_some]
/-! runs of statements -/
def Ends (call : Call) (ts : Ts) (e : Env1) (S : Sto) (P : Fl → Env1 → Sto → Prop) : Prop := ∃ fl e' S', exTs call none ts e S = some ((fl, e'), S') ∧ P fl e' S'
theorem Ends.step {t : T} {r : Ts} {P : Fl → Env1 → Sto → Prop} (h : ∃ e1 S1, exT call none t e S = some ((.nx, e1), S1) ∧ Ends call r e1 S1 P) : Ends call (.cons t r) e S P := by
  obtain ⟨e1, S1, h1, fl, e', S', h2, h3⟩ := h
  refine ⟨fl, e', S', ?_, h3⟩
  rw [ex_cons, h1]
  exact h2
theorem Ends.ret {a : E} {r : Ts} {P : Fl → Env1 → Sto → Prop} (h : ∃ w S1, evE call a e S = some (w, S1) ∧ P (.rt w) e S1) : Ends call (.cons (.ret a) r) e S P := by
  obtain ⟨w, S1, h1, h2⟩ := h
  refine ⟨.rt w, e, S1, ?_, h2⟩
  rw [ex_cons, ex_ret, h1]
  rfl
theorem Ends.retP {a : E} {r : Ts} {P : Fl → Env1 → Sto → Prop} {w : W} {S1 : Sto} (h : evE call a e S = some (w, S1)) (hp : P (.rt w) e S1) : Ends call (.cons (.ret a) r) e S P := Ends.ret ⟨w, S1, h, hp⟩
theorem Ends.retX {a : E} {r : Ts} {x : D} (h : evE call a e S = some (.d x, S)) : Ends call (.cons (.ret a) r) e S fun fl _ S' => fl = .rt (.d x) ∧ S'.take S.length = S := Ends.ret ⟨_, S, h, rfl, List.take_length⟩
theorem Ends.nil {P : Fl → Env1 → Sto → Prop} (h : P .nx e S) : Ends call .nil e S P := ⟨.nx, e, S, ex_nil, h⟩
/-- an if whose branches may return -/
theorem Ends.ite {t : E} {a b r : Ts} {P : Fl → Env1 → Sto → Prop} {c : Bool} {S1 : Sto} (h : tb (evE call t e S) = some (c, S1))
    (ht : c = true → ∃ fl e1 S2, exTs call none a e S1 = some ((fl, e1), S2) ∧ ((fl = .nx ∧ Ends call r e1 S2 P) ∨ ((∃ w, fl = .rt w) ∧ P fl e1 S2)))
    (hf : c = false → ∃ fl e1 S2, exTs call none b e S1 = some ((fl, e1), S2) ∧ ((fl = .nx ∧ Ends call r e1 S2 P) ∨ ((∃ w, fl = .rt w) ∧ P fl e1 S2))) : Ends call (.cons (.ite t a b) r) e S P := by
  have key : ∀ {m : Option ((Fl × Env1) × Sto)}, (∃ fl e1 S2, m = some ((fl, e1), S2) ∧ ((fl = .nx ∧ Ends call r e1 S2 P) ∨ ((∃ w, fl = .rt w) ∧ P fl e1 S2))) → ∃ fl e' S', bd m (seqE fun e S => exTs call none r e S) = some ((fl, e'), S') ∧ P fl e' S' := by
    rintro m ⟨fl, e1, S2, rfl, ⟨rfl, fl', e', S', h2, h3⟩ | ⟨⟨w, rfl⟩, h3⟩⟩
    · exact ⟨fl', e', S', h2, h3⟩
    · exact ⟨.rt w, e1, S2, rfl, h3⟩
  unfold Ends
  rw [ex_cons, ex_ite, h, bd_some]
  cases c with
  | true => exact key (ht rfl)
  | false => exact key (hf rfl)
theorem Ends.for {α : Type} {t : Tg} {it : RW.It} {b r : Ts} {P : Fl → Env1 → Sto → Prop} {S1 : Sto} (enc : α → D) (xs : List α) (I : List α → Env1 → Sto → Prop) (hit : evI call it e S = some (xs.map enc, S1)) (h0 : I xs e S1)
    (step : ∀ x rest e S, I (x :: rest) e S → ∃ e1 e2 S', asgT e t (.d (enc x)) = some e1 ∧ exTs call none b e1 S = some ((.nx, e2), S') ∧ I rest e2 S') (h : ∀ e S, I [] e S → Ends call r e S P) : Ends call (.cons (.for t it b) r) e S P := by
  obtain ⟨e', S', h1, h2⟩ := forR_nx (g := fun w e => asgT e t w) (b := fun e S => exTs call none b e S) enc I step xs e S1 h0
  refine Ends.step ⟨e', S', ?_, h e' S' h2⟩
  rw [ex_for, hit, bd_some]
  exact h1
/-- .. that may return -/
theorem Ends.forR {α : Type} {t : Tg} {it : RW.It} {b r : Ts} {P : Fl → Env1 → Sto → Prop} {S1 : Sto} (enc : α → D) (xs : List α) (I : List α → Env1 → Sto → Prop) (hit : evI call it e S = some (xs.map enc, S1)) (h0 : I xs e S1)
    (step : ∀ x rest e S, I (x :: rest) e S → ∃ e1 fl e2 S', asgT e t (.d (enc x)) = some e1 ∧ exTs call none b e1 S = some ((fl, e2), S') ∧ ((fl = .nx ∧ I rest e2 S') ∨ ∃ w, fl = .rt w ∧ P (.rt w) e2 S')) (h : ∀ e S, I [] e S → Ends call r e S P) : Ends call (.cons (.for t it b) r) e S P := by
  obtain ⟨fl, e', S', h1, h2⟩ := forR_rt (g := fun w e => asgT e t w) (b := fun e S => exTs call none b e S) enc I (fun w e S => P (.rt w) e S) step xs e S1 h0
  rcases h2 with ⟨rfl, h2⟩ | ⟨w, rfl, h2⟩
  · refine Ends.step ⟨e', S', ?_, h e' S' h2⟩
    rw [ex_for, hit, bd_some]
    exact h1
  · refine ⟨.rt w, e', S', ?_, h2⟩
    rw [ex_cons, ex_for, hit, bd_some]
    have h1 : RW.forR (fun w e => asgT e t w) (fun e S => exTs call none b e S) (xs.map enc) e S1 = some ((.rt w, e'), S') := h1
    rw [h1]
    rfl
theorem Ends.whl {t : E} {b r : Ts} {P : Fl → Env1 → Sto → Prop} (I : Nat → Env1 → Sto → Prop) (m : Nat) (h0 : I m e S)
    (step : ∀ m e S, I m e S → (∃ S1, tb (evE call t e S) = some (false, S1) ∧ Ends call r e S1 P) ∨ ∃ S1 e2 S2 m', tb (evE call t e S) = some (true, S1) ∧ exTs call none b e S1 = some ((.nx, e2), S2) ∧ m' < m ∧ I m' e2 S2) : Ends call (.cons (.whl t b) r) e S P := by
  obtain ⟨e', S', h1, h2⟩ := whlC_inv (t := fun e S => tb (evE call t e S)) (body := fun e S => exTs call none b e S) I (fun e S => Ends call r e S P) step m e S h0
  refine Ends.step ⟨e', S', ?_, h2⟩
  rw [ex_whl]
  exact h1
end
end RW
set_option Elab.async false
set_option linter.all false
set_option maxRecDepth 100000
namespace RW
open PySem PySem.W
/-- the defs that nearly all laws have -/
structure FB (FN : Nat → Option FnD) : Prop where
  f1 : FN 1 = some fd__law_well
  f2 : FN 2 = some fd__law_draw
  f3 : FN 3 = some fd__law_same
  f10 : FN 10 = some fd_Web_init
  f11 : FN 11 = some fd_is_one_of
  f12 : FN 12 = some fd_is_word
  f13 : FN 13 = some fd_is_name
  f14 : FN 14 = some fd_is_tuple_of
  f15 : FN 15 = some fd_is_pair
  f16 : FN 16 = some fd_wrong_in
  f17 : FN 17 = some fd_are_below
  f18 : FN 18 = some fd_wrong_in_places
  f19 : FN 19 = some fd_is_tie_of
  f20 : FN 20 = some fd_wrong_in_ties
  f21 : FN 21 = some fd_beside
  f22 : FN 22 = some fd_do_hang
  f23 : FN 23 = some fd__law_of
  f25 : FN 25 = some fd__law_words
  f152 : FN 152 = some fd_wrong_in_places_lam
  f153 : FN 153 = some fd_wrong_in_ties_lam
@[simp] theorem asg1_0 {w : Option W} {r : Env1} {x : W} : asg1 (w :: r) 0 x = some (some x :: r) := rfl
@[simp] theorem asg1_s {w : Option W} {r : Env1} {x : W} {i : Nat} : asg1 (w :: r) (i + 1) x = (asg1 r i x).map (w :: ·) := by
  unfold asg1
  by_cases h : i < r.length
  · rw [if_pos (by simpa using h), if_pos h]; rfl
  · rw [if_neg (by simpa using h), if_neg h]; rfl
@[simp] theorem asgT_nm {e : Env1} {i : Nat} {w : W} : asgT e (.nm i) w = asg1 e i w := rfl
@[simp] theorem asgT_tp {e : Env1} {l : List Nat} {xs : List D} : asgT e (.tp l) (.d (.tuple xs)) = asgL e l xs := rfl
@[simp] theorem asgL_nil {e : Env1} : asgL e [] [] = some e := rfl
@[simp] theorem asgL_cons {e : Env1} {i : Nat} {l : List Nat} {x : D} {xs : List D} : asgL e (i :: l) (x :: xs) = ob (asg1 e i (.d x)) fun e => asgL e l xs := rfl
@[simp] theorem asgW_nil {e : Env1} : asgW e [] [] = some e := rfl
@[simp] theorem asgW_cons {e : Env1} {i : Nat} {l : List Nat} {x : W} {xs : List W} : asgW e (i :: l) (x :: xs) = ob (asg1 e i x) fun e => asgW e l xs := rfl
@[simp] theorem biWW_1 {b : Bi} {x : D} {S : Sto} : biWW b [.d x] S = (biD b [x]).map fun z => (.d z, S) := by
  unfold biWW; simp
@[simp] theorem biWW_2 {b : Bi} {x y : D} {S : Sto} : biWW b [.d x, .d y] S = (biD b [x, y]).map fun z => (.d z, S) := by
  unfold biWW; simp
def endF (fd : FnD) (n : Nat) (p : Fl × Env1) (S' : Sto) : Option (W × Sto) := match p with
  | (.rt w, _) => handBack fd n w S'
  | (.nx, _) => handBack fd n (.d .none) S'
  | _ => none
theorem runF_eq {call : Call} {fu : Option Nat} {fd : FnD} {ws : List W} {S : Sto} (h : ws.length = fd.np) : runF call fu fd ws S = bd (exTs call fu fd.body (ws.map some ++ List.replicate (fd.N.length - fd.np) none) S) (endF fd S.length) := by
  unfold runF
  rw [if_pos h]
  rfl
theorem endF_rt {fd : FnD} (h : fd.keep = false) {n : Nat} {x : D} {e : Env1} {S : Sto} : endF fd n (.rt (.d x), e) S = some (.d x, S.take n) := handBack_d h
theorem endF_nx {fd : FnD} (h : fd.keep = false) {n : Nat} {e : Env1} {S : Sto} : endF fd n (.nx, e) S = some (.d .none, S.take n) := handBack_d h
/-- a call, its body run -/
theorem call_ends {FN : Nat → Option FnD} {n f : Nat} {fd : FnD} {ws : List W} {S : Sto} {P : Fl → Env1 → Sto → Prop} (hf : FN f = some fd) (hn : fd.nat = none) (hk : fd.keep = false) (hl : ws.length = fd.np)
    (h : Ends (callN FN none n) fd.body (ws.map some ++ List.replicate (fd.N.length - fd.np) none) S P) (Q : W → Sto → Prop) (hQ : ∀ fl e' S', P fl e' S' → ∃ x, (fl = .nx ∧ x = W.d .none ∨ fl = .rt x) ∧ ∃ y S2, handBack fd S.length x S' = some (y, S2) ∧ Q y S2) : ∃ y S2, callN FN none (n + 1) f ws S = some (y, S2) ∧ Q y S2 := by
  obtain ⟨fl, e', S', h1, h2⟩ := h
  obtain ⟨x, h3, y, S2, h4, h5⟩ := hQ fl e' S' h2
  refine ⟨y, S2, ?_, h5⟩
  rw [callN_run hf hn, runF_eq hl, h1]
  rcases h3 with ⟨rfl, rfl⟩ | rfl
  · exact h4
  · exact h4
/-- .. that leaves the store -/
theorem call_rt' {FN : Nat → Option FnD} {n f : Nat} {fd : FnD} {ws : List W} {S : Sto} {x : D} (hf : FN f = some fd) (hn : fd.nat = none) (hk : fd.keep = false) (hl : ws.length = fd.np)
    (e0 : Env1) (he : ws.map some ++ List.replicate (fd.N.length - fd.np) none = e0) (h : Ends (callN FN none n) fd.body e0 S fun fl _ S' => fl = .rt (.d x) ∧ S'.take S.length = S) : callN FN none (n + 1) f ws S = some (.d x, S) := by
  obtain ⟨y, S2, h1, rfl, rfl⟩ := call_ends hf hn hk hl (he ▸ h) (fun y S2 => y = .d x ∧ S2 = S) fun fl _ S' ⟨h1, h2⟩ => ⟨.d x, .inr h1, .d x, S, by rw [handBack_d hk, h2], rfl, rfl⟩
  exact h1
theorem call_nx' {FN : Nat → Option FnD} {n f : Nat} {fd : FnD} {ws : List W} {S : Sto} (hf : FN f = some fd) (hn : fd.nat = none) (hk : fd.keep = false) (hl : ws.length = fd.np)
    (e0 : Env1) (he : ws.map some ++ List.replicate (fd.N.length - fd.np) none = e0) (h : Ends (callN FN none n) fd.body e0 S fun fl _ S' => fl = .nx ∧ S'.take S.length = S) : callN FN none (n + 1) f ws S = some (.d .none, S) := by
  obtain ⟨y, S2, h1, rfl, rfl⟩ := call_ends hf hn hk hl (he ▸ h) (fun y S2 => y = .d .none ∧ S2 = S) fun fl _ S' ⟨h1, h2⟩ => ⟨.d .none, .inl ⟨h1, rfl⟩, .d .none, S, by rw [handBack_d hk, h2], rfl, rfl⟩
  exact h1
/-! data -/
section
variable {α : Type} [DecidableEq α]
theorem okD_of [Datum α] (a : α) (h : Datum.depth α ≤ 60) : okD (Datum.toD a) = true := by
  unfold okD
  rw [Datum.plain, Bool.true_and, decide_eq_true_eq]
  exact Nat.le_trans (Datum.depth_le a) h
theorem all_okD [Datum α] (l : List α) (h : Datum.depth α ≤ 60) : (l.map Datum.toD).all okD = true := by
  rw [List.all_map, List.all_eq_true]
  exact fun a _ => okD_of a h
theorem cmpD_eq [Datum α] (a b : α) (h : Datum.depth α ≤ 60) : cmpD .Eq (Datum.toD a) (Datum.toD b) = some (decide (a = b)) := by
  show (if okD (Datum.toD a) && okD (Datum.toD b) then some (PyData.eqv (Datum.toD a) (Datum.toD b)) else none) = _
  rw [okD_of a h, okD_of b h, Datum.eqv]; rfl
theorem cmpD_ne [Datum α] (a b : α) (h : Datum.depth α ≤ 60) : cmpD .NotEq (Datum.toD a) (Datum.toD b) = some (decide (a ≠ b)) := by
  show (if okD (Datum.toD a) && okD (Datum.toD b) then some (!PyData.eqv (Datum.toD a) (Datum.toD b)) else none) = _
  rw [okD_of a h, okD_of b h, Datum.eqv]
  simp
theorem any_toD [Datum α] (l : List α) (a : α) : ((l.map Datum.toD).any fun y => PyData.eqv y (Datum.toD a)) = decide (a ∈ l) := any_datum l a
theorem cmpD_inL [Datum α] (a : α) (l : List α) (h : Datum.depth α ≤ 60) : cmpD .In (Datum.toD a) (.list (l.map Datum.toD)) = some (decide (a ∈ l)) := by
  have e : cmpD .In (Datum.toD a) (.list (l.map Datum.toD)) = if okD (Datum.toD a) && (l.map Datum.toD).all okD then some ((l.map Datum.toD).any fun y => PyData.eqv y (Datum.toD a)) else none := by
    generalize Datum.toD a = z
    cases z <;> rfl
  rw [e, okD_of a h, all_okD l h, any_toD]; rfl
theorem cmpD_inT [Datum α] (a : α) (l : List α) (h : Datum.depth α ≤ 60) : cmpD .In (Datum.toD a) (.tuple (l.map Datum.toD)) = some (decide (a ∈ l)) := by
  have e : cmpD .In (Datum.toD a) (.tuple (l.map Datum.toD)) = if okD (Datum.toD a) && (l.map Datum.toD).all okD then some ((l.map Datum.toD).any fun y => PyData.eqv y (Datum.toD a)) else none := by
    generalize Datum.toD a = z
    cases z <;> rfl
  rw [e, okD_of a h, all_okD l h, any_toD]; rfl
theorem cmpD_ninL [Datum α] (a : α) (l : List α) (h : Datum.depth α ≤ 60) : cmpD .NotIn (Datum.toD a) (.list (l.map Datum.toD)) = some (decide (a ∉ l)) := by
  have e : cmpD .NotIn (Datum.toD a) (.list (l.map Datum.toD)) = if okD (Datum.toD a) && (l.map Datum.toD).all okD then some (!(l.map Datum.toD).any fun y => PyData.eqv y (Datum.toD a)) else none := by
    generalize Datum.toD a = z
    cases z <;> rfl
  rw [e, okD_of a h, all_okD l h, any_toD]; simp
theorem cmpD_ninT [Datum α] (a : α) (l : List α) (h : Datum.depth α ≤ 60) : cmpD .NotIn (Datum.toD a) (.tuple (l.map Datum.toD)) = some (decide (a ∉ l)) := by
  have e : cmpD .NotIn (Datum.toD a) (.tuple (l.map Datum.toD)) = if okD (Datum.toD a) && (l.map Datum.toD).all okD then some (!(l.map Datum.toD).any fun y => PyData.eqv y (Datum.toD a)) else none := by
    generalize Datum.toD a = z
    cases z <;> rfl
  rw [e, okD_of a h, all_okD l h, any_toD]; simp
theorem notN_toD [DatumOrd α] (a : α) : notN (Datum.toD a) = true := by
  have := DatumOrd.notNone a
  cases h : (Datum.toD a) with
  | none => exact absurd h this
  | _ => rfl
theorem ltOk_of [DatumOrd α] (a b : α) (h : Datum.depth α ≤ 60) : ltOk (Datum.toD a) (Datum.toD b) = true := by
  unfold ltOk
  rw [DatumOrd.alike, notN_toD, okD_of a h, okD_of b h]; rfl
theorem cmpD_lt [DatumOrd α] (a b : α) (h : Datum.depth α ≤ 60) : cmpD .Lt (Datum.toD a) (Datum.toD b) = some (DatumOrd.lt a b) := by
  show (if ltOk (Datum.toD a) (Datum.toD b) then some (dataLt (Datum.toD a) (Datum.toD b)) else none) = _
  rw [ltOk_of a b h, DatumOrd.lt_eq]; rfl
theorem cmpD_gt [DatumOrd α] (a b : α) (h : Datum.depth α ≤ 60) : cmpD .Gt (Datum.toD a) (Datum.toD b) = some (DatumOrd.lt b a) := by
  show (if ltOk (Datum.toD a) (Datum.toD b) then some (dataLt (Datum.toD b) (Datum.toD a)) else none) = _
  rw [ltOk_of a b h, DatumOrd.lt_eq]; rfl
theorem cmpD_le [DatumOrd α] (a b : α) (h : Datum.depth α ≤ 60) : cmpD .LtE (Datum.toD a) (Datum.toD b) = some (!DatumOrd.lt b a) := by
  show (if ltOk (Datum.toD a) (Datum.toD b) then some (!dataLt (Datum.toD b) (Datum.toD a)) else none) = _
  rw [ltOk_of a b h, DatumOrd.lt_eq]; rfl
theorem cmpD_ge [DatumOrd α] (a b : α) (h : Datum.depth α ≤ 60) : cmpD .GtE (Datum.toD a) (Datum.toD b) = some (!DatumOrd.lt a b) := by
  show (if ltOk (Datum.toD a) (Datum.toD b) then some (!dataLt (Datum.toD a) (Datum.toD b)) else none) = _
  rw [ltOk_of a b h, DatumOrd.lt_eq]; rfl
end
@[simp] theorem eq_int (i j : Int) : cmpD .Eq (.int i) (.int j) = some (decide (i = j)) := cmpD_eq i j (by decide)
@[simp] theorem ne_int (i j : Int) : cmpD .NotEq (.int i) (.int j) = some (decide (i ≠ j)) := cmpD_ne i j (by decide)
@[simp] theorem lt_int (i j : Int) : cmpD .Lt (.int i) (.int j) = some (decide (i < j)) := cmpD_lt i j (by decide)
@[simp] theorem gt_int (i j : Int) : cmpD .Gt (.int i) (.int j) = some (decide (j < i)) := cmpD_gt i j (by decide)
@[simp] theorem le_int (i j : Int) : cmpD .LtE (.int i) (.int j) = some (decide (i ≤ j)) := (cmpD_le i j (by decide)).trans (by show some (!decide (j < i)) = _; congr 1; by_cases h : i ≤ j <;> simp [h]; omega)
@[simp] theorem ge_int (i j : Int) : cmpD .GtE (.int i) (.int j) = some (decide (j ≤ i)) := (cmpD_ge i j (by decide)).trans (by show some (!decide (i < j)) = _; congr 1; by_cases h : j ≤ i <;> simp [h]; omega)
@[simp] theorem eq_str (i j : Str) : cmpD .Eq (.str i) (.str j) = some (decide (i = j)) := cmpD_eq i j (by decide)
@[simp] theorem ne_str (i j : Str) : cmpD .NotEq (.str i) (.str j) = some (decide (i ≠ j)) := cmpD_ne i j (by decide)
@[simp] theorem eq_bool (i j : Bool) : cmpD .Eq (.bool i) (.bool j) = some (decide (i = j)) := cmpD_eq i j (by decide)
@[simp] theorem ne_bool (i j : Bool) : cmpD .NotEq (.bool i) (.bool j) = some (decide (i ≠ j)) := cmpD_ne i j (by decide)
def sLt (x y : Str) : Bool := decide (x.cps.toList < y.cps.toList)
@[simp] theorem lt_str (i j : Str) : cmpD .Lt (.str i) (.str j) = some (sLt i j) := cmpD_lt i j (by decide)
def encT (t : Str × Str) : D := .tuple [.str t.1, .str t.2]
def encL (w : List Str) : D := .tuple (w.map .str)
@[simp] theorem isIx (z : D) (h : isFn z = false) : isD "tuple" z = some z.isTuple := by unfold isD; rw [h]; rfl
@[simp] theorem isStr_s (x : Str) : isD "str" (.str x) = some true := rfl
@[simp] theorem isTup_t (x : List D) : isD "tuple" (.tuple x) = some true := rfl
@[simp] theorem bi_isinst (t : String) (x : D) : biD (.isinst t) [x] = (isD t x).map .bool := rfl
@[simp] theorem bi_lenM (x : D) : biD .len [x] = (lenD x).map fun n : Nat => PyData.int (n : Int) := by
  simp only [biD, bLen]
  cases lenD x <;> rfl
@[simp] theorem len_t (xs : List D) : lenD (.tuple xs) = some xs.length := rfl
@[simp] theorem len_l (xs : List D) : lenD (.list xs) = some xs.length := rfl
theorem ixD_nat {n j : Nat} (h : j < n) : ixD n (j : Int) = some j := by
  unfold ixD
  rw [if_pos (by simp; omega)]
  simp
theorem ixD_last {n : Nat} (h : 0 < n) : ixD n (-1) = some (n - 1) := by
  unfold ixD
  rw [if_neg (by simp), if_pos (by simp; omega)]
  congr 1
  omega
theorem sub_t {xs : List D} {j : Nat} {x : D} (h : xs[j]? = some x) : subD (.tuple xs) (.int (j : Int)) = some x := by
  show ob (ixD xs.length j) _ = _
  rw [ixD_nat (List.getElem?_eq_some_iff.mp h).1]
  exact h
theorem sub_l {xs : List D} {j : Nat} {x : D} (h : xs[j]? = some x) : subD (.list xs) (.int (j : Int)) = some x := by
  show ob (ixD xs.length j) _ = _
  rw [ixD_nat (List.getElem?_eq_some_iff.mp h).1]
  exact h
@[simp] theorem sub_t0 {x : D} {r : List D} : subD (.tuple (x :: r)) (.int 0) = some x := sub_t (j := 0) rfl
@[simp] theorem sub_t1 {x y : D} {r : List D} : subD (.tuple (x :: y :: r)) (.int 1) = some y := sub_t (j := 1) rfl
@[simp] theorem sub_l0 {x : D} {r : List D} : subD (.list (x :: r)) (.int 0) = some x := sub_l (j := 0) rfl
@[simp] theorem sub_l1 {x y : D} {r : List D} : subD (.list (x :: y :: r)) (.int 1) = some y := sub_l (j := 1) rfl
theorem sub_tl {xs : List D} {x : D} (h : xs.getLast? = some x) : subD (.tuple xs) (.int (-1)) = some x := by
  show ob (ixD xs.length (-1)) _ = _
  have hne : xs ≠ [] := fun z => by subst z; cases h
  have hp : 0 < xs.length := List.length_pos_iff.mpr hne
  rw [ixD_last hp]
  show xs[xs.length - 1]? = some x
  rw [List.getLast?_eq_getElem?] at h
  exact h
/-- below the last, if there is one -/
def lastLt (l : List Str) (x : Str) : Bool := match l.getLast? with
  | none => true
  | some y => sLt y x
def LET : Str := Str.ofString "abcdefghijklmnopqrstuvwxyz"
def isLet (c : Nat) : Bool := LET.cps.toList.contains c
def WORDS : List Str := ["all", "back", "book", "bright", "case", "chance", "colour", "cut", "draw", "first", "game", "in", "none", "of", "once", "open", "out", "paint", "place", "proper", "quit", "rule", "short", "single", "take", "tie", "two", "undo", "way", "web", "win", "yes"]
def okName (x : Str) : Bool := (decide (x ≠ Str.ofString "") && x.cps.toList.all isLet) && (decide (x.length ≤ 8) && !decide (x ∈ WORDS))
@[simp] theorem GV_let : GV (Str.ofString "LETTERS") = some (.str LET) := by
  unfold GV
  repeat (first | rw [if_pos (by decide +kernel)] | rw [if_neg (by decide +kernel)])
  try rfl
@[simp] theorem GV_most : GV (Str.ofString "MOST_LETTERS") = some (.int 8) := by
  unfold GV
  repeat (first | rw [if_pos (by decide +kernel)] | rw [if_neg (by decide +kernel)])
  try rfl
@[simp] theorem GV_words : GV (Str.ofString "WORDS") = some (encL WORDS) := by
  unfold GV
  repeat (first | rw [if_pos (by decide +kernel)] | rw [if_neg (by decide +kernel)])
  try rfl
@[simp] theorem GV_lp : GV (Str.ofString "LEAST_PLACES") = some (.int 2) := by
  unfold GV
  repeat (first | rw [if_pos (by decide +kernel)] | rw [if_neg (by decide +kernel)])
  try rfl
@[simp] theorem GV_mp : GV (Str.ofString "MOST_PLACES") = some (.int 6) := by
  unfold GV
  repeat (first | rw [if_pos (by decide +kernel)] | rw [if_neg (by decide +kernel)])
  try rfl
@[simp] theorem GV_mt : GV (Str.ofString "MOST_TIES") = some (.int 9) := by
  unfold GV
  repeat (first | rw [if_pos (by decide +kernel)] | rw [if_neg (by decide +kernel)])
  try rfl
abbrev D'b : Bool → D := PyData.bool
theorem boolsD_map : ∀ l : List Bool, boolsD (l.map .bool) = some l
  | [] => rfl
  | b :: l => by rw [List.map_cons, boolsD, boolsD_map l]; rfl
theorem bAll_map (l : List Bool) : biD .all [.list (l.map .bool)] = some (.bool (l.all id)) := by
  show (boolsD (l.map .bool)).map _ = _
  rw [boolsD_map]; rfl
@[simp] theorem bAll_f {α : Type} (l : List α) (f : α → Bool) : biD .all [.list (l.map fun x => .bool (f x))] = some (.bool (l.all f)) := by
  have e : (l.map fun x => PyData.bool (f x)) = (l.map f).map .bool := by rw [List.map_map]; rfl
  rw [e, bAll_map, List.all_map]; rfl
@[simp] theorem bAll_c {α : Type} (l : List α) (f : α → Bool) : biD .all [.list (l.map (PyData.bool ∘ f))] = some (.bool (l.all f)) := bAll_f l f
theorem len_str {x : Str} (h : x.length ≤ LIM) : lenD (.str x) = some x.length := by
  show (if lim x.length then some x.length else none) = _
  rw [if_pos]; rw [lim, decide_eq_true_eq]; exact h
theorem in_str {c : Nat} {b : Str} : cmpD .In (.str ⟨#[c]⟩) (.str b) = some (b.cps.toList.contains c) := by
  show (if (Str.mk #[c]).length == 1 then some (b.cps.toList.contains ((#[c]).getD 0 0)) else none) = _
  rfl
theorem slc_take (xs : List D) (i : Nat) : slcD (.tuple xs) none (some (.int (i : Int))) = some (.tuple (xs.take i)) := by
  show ob (some 0) (fun i' => ob (some (if (i : Int) < 0 then ((i : Int) + xs.length).toNat else min (i : Int).toNat xs.length)) fun j => some (PyData.tuple (cutL xs i' j))) = _
  rw [if_neg (by omega)]
  simp only [ob_some, cutL, List.drop_zero, Nat.sub_zero, Int.toNat_natCast]
  congr 2
  rcases Nat.le_total i xs.length with h | h
  · rw [Nat.min_eq_left h]
  · rw [Nat.min_eq_right h, List.take_of_length_le (Nat.le_refl _), List.take_of_length_le h]
theorem slc_drop (xs : List D) (i : Nat) : slcD (.tuple xs) (some (.int (i : Int))) none = some (.tuple (xs.drop i)) := by
  show ob (some (if (i : Int) < 0 then ((i : Int) + xs.length).toNat else min (i : Int).toNat xs.length)) (fun i' => ob (some xs.length) fun j => some (PyData.tuple (cutL xs i' j))) = _
  rw [if_neg (by omega)]
  simp only [ob_some, cutL, Int.toNat_natCast]
  congr 2
  rcases Nat.le_total i xs.length with h | h
  · rw [Nat.min_eq_left h, List.take_of_length_le (by simp)]
  · rw [Nat.min_eq_right h, List.drop_of_length_le (Nat.le_refl _), List.drop_of_length_le h]; simp
theorem callV_clo {call : Call} {k : Nat} {cs : List D} {ws : List W} {S : Sto} : callV call (.clo k cs) ws S = call k (cs.map .d ++ ws) S := rfl
section
variable {FN : Nat → Option FnD} (B : FB FN) {S : Sto} {n : Nat}
include B
theorem is_tuple_of_ok {xs : List D} {k : Int} : callN FN none (n + 1) 14 [.d (.tuple xs), .d (.int k)] S = some (.d (.bool (decide ((xs.length : Int) = k))), S) := by
  refine call_rt' B.f14 rfl rfl rfl _ rfl (Ends.retX ?_)
  simp [cmpW_d]
theorem is_pair_ok {xs : List D} : callN FN none (n + 2) 15 [.d (.tuple xs)] S = some (.d (.bool (decide ((xs.length : Int) = 2))), S) := by
  refine call_rt' B.f15 rfl rfl rfl _ rfl (Ends.retX ?_)
  simp [is_tuple_of_ok B]
theorem is_one_of_ok {x : Str} {l : List Str} : callN FN none (n + 1) 11 [.d (.str x), .d (encL l)] S = some (.d (.bool (decide (x ∈ l))), S) := by
  refine call_rt' B.f11 rfl rfl rfl _ rfl (Ends.retX ?_)
  have : cmpD .In (.str x) (encL l) = _ := cmpD_inT x l (by decide)
  simp [cmpW_d, this]
theorem are_below_ok {x : Str} {l : List Str} : callN FN none (n + 1) 17 [.d (encL l), .d (.str x)] S = some (.d (.bool (lastLt l x)), S) := by
  refine call_rt' B.f17 rfl rfl rfl _ rfl (Ends.retX ?_)
  have h := cmpD_eq (Tup.mk l) (Tup.mk ([] : List Str)) (by decide)
  have h : cmpD .Eq (encL l) (.tuple []) = _ := h
  cases hl : l.getLast? with
  | none =>
    have : l = [] := List.getLast?_eq_none_iff.mp hl
    subst this
    simp [cmpW_d, lim, LIM, h, lastLt]
  | some y =>
    have hne : l ≠ [] := fun z => by subst z; cases hl
    have e2 : subD (encL l) (.int (-1)) = some (.str y) := sub_tl (by rw [List.getLast?_map, hl]; rfl)
    simp [cmpW_d, lim, LIM, h, lastLt, hl, hne, e2]
theorem is_word_ok {x : Str} (hx : x.length ≤ LIM) : callN FN none (n + 1) 12 [.d (.str x)] S = some (.d (.bool (decide (x ≠ Str.ofString "") && x.cps.toList.all isLet)), S) := by
  refine call_rt' B.f12 rfl rfl rfl [some (.d (.str x)), none] rfl (Ends.retX ?_)
  have h1 : cmpD .NotEq (.str x) (strD "") = some (decide (x ≠ Str.ofString "")) := cmpD_ne x (Str.ofString "") (by decide)
  have hz : x.cps.toList.length ≤ LIM := by simpa [Str.length] using hx
  have e : ∀ S, evE (callN FN none n) (.lc (.cmp .In (.v 1) (.g "LETTERS")) (.mk (.nm 1) (.e (.v 0)) .no) [1]) [some (.d (.str x)), none] S = some (.d (.list ((x.cps.toList.map isLet).map .bool)), S) := by
    intro S
    rw [ev_lcA (fun c => .str ⟨#[c]⟩) x.cps.toList (fun c => .bool (isLet c)) (S1 := S) (by simp) hz fun c _ => ⟨[some (.d (.str x)), some (.d (.str ⟨#[c]⟩))], rfl, by simp [cmpW_d, in_str, isLet]⟩, List.map_map]
    rfl
  simp [cmpW_d, h1, e, bAll_map]
theorem is_name_ok {x : Str} (hx : x.length ≤ LIM) : callN FN none (n + 2) 13 [.d (.str x)] S = some (.d (.bool (okName x)), S) := by
  refine call_rt' B.f13 rfl rfl rfl _ rfl (Ends.retX ?_)
  have h1 : cmpD .NotIn (.str x) (encL WORDS) = some (decide (x ∉ WORDS)) := cmpD_ninT x WORDS (by decide)
  simp [is_word_ok B hx, len_str hx, cmpW_d, h1]
  have e : decide ((x.length : Int) ≤ 8) = decide (x.length ≤ 8) := decide_eq_decide.mpr (by omega)
  simp [okName, e]
theorem places_lam_ok {l : List Str} {x : Str} (hx : x.length ≤ LIM) : callN FN none (n + 3) 152 [.d (encL l), .d (.str x)] S = some (.d (.bool (okName x && lastLt l x)), S) := by
  refine call_rt' B.f152 rfl rfl rfl _ rfl (Ends.retX ?_)
  simp [is_name_ok B hx, are_below_ok B]
theorem wrong_in_ok {xs : List D} {least most : Int} {l : Nat} {cs : List D} (h1 : least ≤ xs.length) (h2 : (xs.length : Int) ≤ most) (h : ∀ (i : Nat) (x : D), xs[i]? = some x → callN FN none n l (cs.map .d ++ [.d (.tuple (xs.take i)), .d x]) S = some (.d (.bool true), S)) :
    callN FN none (n + 1) 16 [.d (.tuple xs), .d (.int least), .d (.int most), .clo l cs] S = some (.d (.list []), S) := by
  refine call_rt' B.f16 rfl rfl rfl [some (.d (.tuple xs)), some (.d (.int least)), some (.d (.int most)), some (.clo l cs), none, none] rfl ?_
  have hlt : ¬ ((xs.length : Int) < least) := by omega
  refine Ends.step ⟨_, S, by simp [cmpW_d, hlt, ex_nil]; rfl, ?_⟩
  refine Ends.for (fun p : D × Nat => .tuple [.int p.2, p.1]) xs.zipIdx (fun r e S' => S' = S ∧ ∃ a b, e = [some (.d (.tuple xs)), some (.d (.int least)), some (.d (.int most)), some (.clo l cs), a, b] ∧ ∀ p ∈ r, xs[p.2]? = some p.1) (S1 := S) (by simp)
    ⟨rfl, none, none, rfl, fun p hp => List.mem_zipIdx_iff_getElem?.mp hp⟩ ?_ ?_
  · rintro p r _ _ ⟨rfl, a, b, rfl, hp⟩
    have hx := hp p (by simp)
    have hb := (List.getElem?_eq_some_iff.mp hx).1
    have hne : ¬ ((p.2 : Int) = most) := by omega
    have hc := h p.2 p.1 hx
    refine ⟨[some (.d (.tuple xs)), some (.d (.int least)), some (.d (.int most)), some (.clo l cs), some (.d (.int p.2)), some (.d p.1)], [some (.d (.tuple xs)), some (.d (.int least)), some (.d (.int most)), some (.clo l cs), some (.d (.int p.2)), some (.d p.1)], _, by simp, ?_, rfl, _, _, rfl, fun q hq => hp q (by simp [hq])⟩
    rw [ex_cons]
    simp [cmpW_d, hne, slc_take, callV_clo, hc, ex_nil]
  · rintro _ _ ⟨rfl, a, b, rfl, _⟩
    exact Ends.retX (by simp [lim, LIM])
/-- places that are right -/
def okPlaces (ps : List Str) : Prop := 2 ≤ ps.length ∧ ps.length ≤ 6 ∧ (∀ p ∈ ps, okName p = true) ∧ ps.Pairwise fun x y => sLt x y = true
omit B in
theorem okName_len {x : Str} (h : okName x = true) : x.length ≤ 8 := by
  unfold okName at h
  simp only [Bool.and_eq_true, decide_eq_true_eq] at h
  exact h.2.1
omit B in
theorem lastLt_of {ps : List Str} {i : Nat} {x : Str} (h : ps.Pairwise fun x y => sLt x y = true) (hx : ps[i]? = some x) : lastLt (ps.take i) x = true := by
  unfold lastLt
  cases hl : (ps.take i).getLast? with
  | none => rfl
  | some y =>
    have hy : y ∈ ps.take i := List.mem_of_getLast? hl
    have e : ps = ps.take i ++ ps.drop i := (List.take_append_drop i ps).symm
    rw [e, List.pairwise_append] at h
    refine h.2.2 y hy x ?_
    have : (ps.drop i)[0]? = some x := by rw [List.getElem?_drop]; simpa using hx
    exact List.mem_of_getElem? this
theorem places_ok {ps : List Str} (h : okPlaces ps) : callN FN none (n + 5) 18 [.d (encL ps)] S = some (.d (.list []), S) := by
  refine call_rt' B.f18 rfl rfl rfl _ rfl (Ends.retX ?_)
  obtain ⟨h1, h2, h3, h4⟩ := h
  have e := wrong_in_ok B (S := S) (n := n + 3) (xs := ps.map .str) (least := 2) (most := 6) (l := 152) (cs := []) (by simp; omega) (by simp; omega) fun i x hx => by
    rw [List.getElem?_map] at hx
    cases hy : ps[i]? with
    | none => rw [hy] at hx; cases hx
    | some y =>
      rw [hy] at hx
      cases hx
      have := places_lam_ok B (S := S) (n := n) (l := ps.take i) (x := y) (Nat.le_trans (okName_len (h3 y (List.mem_of_getElem? hy))) (by decide))
      rw [lastLt_of h4 hy, h3 y (List.mem_of_getElem? hy)] at this
      rw [← List.map_take]
      exact this
  simp [caps]
  exact e
/-- ties that are right -/
def tieLt (x y : Str × Str) : Bool := DatumOrd.lt x y
def okTies (ps : List Str) (ts : List (Str × Str)) : Prop := 1 ≤ ts.length ∧ ts.length ≤ 9 ∧ (∀ t ∈ ts, t.1 ∈ ps ∧ t.2 ∈ ps ∧ sLt t.1 t.2 = true) ∧ ts.Pairwise fun x y => tieLt x y = true
def encTs (ts : List (Str × Str)) : D := .tuple (ts.map encT)
theorem is_tie_ok {ps : List Str} {t : Str × Str} : callN FN none (n + 3) 19 [.d (encL ps), .d (encT t)] S = some (.d (.bool (decide (t.1 ∈ ps) && (decide (t.2 ∈ ps) && sLt t.1 t.2))), S) := by
  refine call_rt' B.f19 rfl rfl rfl _ rfl (Ends.retX ?_)
  have e1 : subD (encT t) (.int 0) = some (.str t.1) := sub_t0
  have e2 : subD (encT t) (.int 1) = some (.str t.2) := sub_t1
  have e3 : ∀ S, callN FN none (n + 2) 15 [.d (encT t)] S = some (.d (.bool true), S) := fun S => is_pair_ok B
  simp [e3, e1, e2, is_one_of_ok B, cmpW_d]
theorem below_ties_ok {l : List (Str × Str)} {x : Str × Str} : callN FN none (n + 1) 17 [.d (encTs l), .d (encT x)] S = some (.d (.bool (match l.getLast? with
    | none => true
    | some y => tieLt y x)), S) := by
  refine call_rt' B.f17 rfl rfl rfl _ rfl (Ends.retX ?_)
  have h := cmpD_eq (Tup.mk l) (Tup.mk ([] : List (Str × Str))) (by decide)
  have h : cmpD .Eq (encTs l) (.tuple []) = _ := h
  cases hl : l.getLast? with
  | none =>
    have : l = [] := List.getLast?_eq_none_iff.mp hl
    subst this
    simp [cmpW_d, lim, LIM, h]
  | some y =>
    have hne : l ≠ [] := fun z => by subst z; cases hl
    have e2 : subD (encTs l) (.int (-1)) = some (encT y) := sub_tl (by rw [List.getLast?_map, hl]; rfl)
    have e3 : cmpD .Lt (encT y) (encT x) = some (tieLt y x) := cmpD_lt y x (by decide)
    simp [cmpW_d, lim, LIM, h, hne, e2, e3]
theorem ties_lam_ok {ps : List Str} {l : List (Str × Str)} {x : Str × Str} : callN FN none (n + 4) 153 [.d (encL ps), .d (encTs l), .d (encT x)] S = some (.d (.bool ((decide (x.1 ∈ ps) && (decide (x.2 ∈ ps) && sLt x.1 x.2)) && match l.getLast? with
    | none => true
    | some y => tieLt y x)), S) := by
  refine call_rt' B.f153 rfl rfl rfl _ rfl (Ends.retX ?_)
  simp [is_tie_ok B, below_ties_ok B]
theorem ties_ok {ps : List Str} {ts : List (Str × Str)} (h : okTies ps ts) : callN FN none (n + 6) 20 [.d (encL ps), .d (encTs ts)] S = some (.d (.list []), S) := by
  refine call_rt' B.f20 rfl rfl rfl _ rfl (Ends.retX ?_)
  obtain ⟨h1, h2, h3, h4⟩ := h
  have e := wrong_in_ok B (S := S) (n := n + 4) (xs := ts.map encT) (least := 1) (most := 9) (l := 153) (cs := [encL ps]) (by simp; omega) (by simp; omega) fun i x hx => by
    rw [List.getElem?_map] at hx
    cases hy : ts[i]? with
    | none => rw [hy] at hx; cases hx
    | some y =>
      rw [hy] at hx
      cases hx
      have := ties_lam_ok B (S := S) (n := n) (ps := ps) (l := ts.take i) (x := y)
      obtain ⟨a1, a2, a3⟩ := h3 y (List.mem_of_getElem? hy)
      have hlast : (match (ts.take i).getLast? with
        | none => true
        | some z => tieLt z y) = true := by
        cases hl : (ts.take i).getLast? with
        | none => rfl
        | some z =>
          have hz : z ∈ ts.take i := List.mem_of_getLast? hl
          have e : ts = ts.take i ++ ts.drop i := (List.take_append_drop i ts).symm
          rw [e, List.pairwise_append] at h4
          refine h4.2.2 z hz y ?_
          have : (ts.drop i)[0]? = some y := by rw [List.getElem?_drop]; simpa using hy
          exact List.mem_of_getElem? this
      rw [hlast, a3, decide_eq_true a1, decide_eq_true a2] at this
      rw [← List.map_take]
      exact this
  have hc : capD (encL ps) = true := by
    show (ps.map PyData.str).all atomB = true
    rw [List.all_map, List.all_eq_true]; intro _ _; rfl
  simp [caps, hc]
  exact e
end
end RW
set_option Elab.async false
set_option linter.all false
set_option maxRecDepth 100000
set_option maxHeartbeats 2000000
namespace RW
open PySem PySem.W
/-! stores -/
section
variable {S r : Sto} {A B C X : MO}
@[simp] theorem st_get0 : (S ++ A :: r)[S.length]? = some A := by rw [List.getElem?_append_right (Nat.le_refl _), Nat.sub_self]; rfl
@[simp] theorem st_get1 : (S ++ A :: B :: r)[S.length + 1]? = some B := by rw [List.getElem?_append_right (by omega), show S.length + 1 - S.length = 1 by omega]; rfl
@[simp] theorem st_get2 : (S ++ A :: B :: C :: r)[S.length + 2]? = some C := by rw [List.getElem?_append_right (by omega), show S.length + 2 - S.length = 2 by omega]; rfl
@[simp] theorem st_set0 : (S ++ A :: r).set S.length X = S ++ X :: r := by rw [List.set_append_right _ _ (Nat.le_refl _), Nat.sub_self]; rfl
@[simp] theorem st_set1 : (S ++ A :: B :: r).set (S.length + 1) X = S ++ A :: X :: r := by rw [List.set_append_right _ _ (by omega), show S.length + 1 - S.length = 1 by omega]; rfl
@[simp] theorem st_set2 : (S ++ A :: B :: C :: r).set (S.length + 2) X = S ++ A :: B :: X :: r := by rw [List.set_append_right _ _ (by omega), show S.length + 2 - S.length = 2 by omega]; rfl
theorem st_take : (S ++ r).take S.length = S := by simp
end
section
variable {S : Sto} {i : Nat} {xs : List D} {kvs : List (D × D)}
theorem rd_lst (h : S[i]? = some (.lst xs)) : rd S (.ref i) = some (.list xs) := by simp [rd, h]
theorem rd_dct {t : Bool} (h : S[i]? = some (.dct t kvs)) : rd S (.ref i) = some (.dict kvs) := by simp [rd, h]
theorem cmpW_lst {o : CmpOp} {y : D} (h : S[i]? = some (.lst xs)) : cmpW o S (.ref i) (.d y) = cmpD o (.list xs) y := by
  unfold cmpW
  rw [if_neg (by simp), rd_lst h]; rfl
theorem cmpW_dlst {o : CmpOp} {x : D} (h : S[i]? = some (.lst xs)) : cmpW o S (.d x) (.ref i) = cmpD o x (.list xs) := by
  unfold cmpW
  rw [if_neg (by simp [isDct, h]), rd_lst h]; rfl
theorem cmpW_nin {x : D} {t : Bool} (h : S[i]? = some (.dct t kvs)) (hk : (keyD x && (isTupD x == t)) = true) : cmpW .NotIn S (.d x) (.ref i) = some (!(dget kvs x).isSome) := by
  unfold cmpW
  rw [if_pos (by simp [isDct, h])]
  show (ownGet S i (.d x)).map _ = _
  unfold ownGet
  rw [h]
  show (if (keyD x && (isTupD x == t)) = true then some (dget kvs x) else none).map _ = _
  rw [if_pos hk]; rfl
theorem meTy_lst {m : Me} (h : S[i]? = some (.lst xs)) (h1 : m ≠ .split) (h2 : m ≠ .get2) : meTy m S (.ref i) = true := by
  unfold meTy
  cases m <;> first | (exact absurd rfl h1) | (exact absurd rfl h2) | (simp [rd_lst h])
theorem mm_pop {x : D} (h : S[i]? = some (.lst (xs ++ [x]))) : meW .pop S (.ref i) [] = some (.d x, S.set i (.lst xs)) := by
  show mePop S i [] = _
  unfold mePop
  rw [h]
  simp
theorem mm_append {x : D} (h : S[i]? = some (.lst xs)) (hl : xs.length < LIM) : meW .append S (.ref i) [.d x] = some (.d .none, S.set i (.lst (xs ++ [x]))) := by
  show meAppend S i [.d x] = _
  unfold meAppend
  rw [h]
  simp [hl]
theorem mm_extend {ys : List D} (h : S[i]? = some (.lst xs)) (hl : xs.length + ys.length ≤ LIM) : meW .extend S (.ref i) [.d (.list ys)] = some (.d .none, S.set i (.lst (xs ++ ys))) := by
  show meExtend S i [.d (.list ys)] = _
  unfold meExtend
  rw [h]
  simp [lim, hl]
theorem biWW_r {b : Bi} {x : D} (h : rd S (.ref i) = some x) : biWW b [.ref i] S = (biD b [x]).map fun z => (.d z, S) := by
  unfold biWW
  cases b <;> simp [h]
theorem ne_nil {α : Type} [DecidableEq α] [Datum α] (l : List α) (h : Datum.depth α ≤ 59) : cmpD .NotEq (.list (l.map Datum.toD)) (.list []) = some (decide (l ≠ [])) :=
  cmpD_ne l ([] : List α) (by show Datum.depth α + 1 ≤ 60; omega)
end
/-! graphs -/
def adj (ts : List (Str × Str)) (a b : Str) : Prop := (a, b) ∈ ts ∨ (b, a) ∈ ts
def nb (ts : List (Str × Str)) (p : Str) : List Str := (ts.filter fun t => decide (p = t.1 ∨ p = t.2)).map fun t => if t.2 = p then t.1 else t.2
theorem mem_nb {ts : List (Str × Str)} (h : ∀ t ∈ ts, t.1 ≠ t.2) {p q : Str} : q ∈ nb ts p ↔ adj ts p q := by
  unfold nb adj
  rw [List.mem_map]
  constructor
  · rintro ⟨⟨a, b⟩, ht, rfl⟩
    rw [List.mem_filter, decide_eq_true_eq] at ht
    obtain ⟨ht, hp⟩ := ht
    have hne := h _ ht
    simp only at hp hne ⊢
    by_cases hb : b = p
    · subst hb; rw [if_pos rfl]; exact .inr ht
    · rw [if_neg hb]
      rcases hp with rfl | rfl
      · exact .inl ht
      · exact absurd rfl hb
  · rintro (ht | ht)
    · refine ⟨(p, q), List.mem_filter.mpr ⟨ht, by simp⟩, ?_⟩
      have := h _ ht
      rw [if_neg fun z => this z.symm]
    · exact ⟨(q, p), List.mem_filter.mpr ⟨ht, by simp⟩, by simp⟩
theorem adj.symm {ts : List (Str × Str)} {a b : Str} (h : adj ts a b) : adj ts b a := Or.symm h
inductive Reach (ts : List (Str × Str)) (a : Str) : Str → Prop
  | refl : Reach ts a a
  | step {b c : Str} : Reach ts a b → adj ts b c → Reach ts a c
theorem Reach.trans {ts : List (Str × Str)} {a b c : Str} (h : Reach ts a b) (k : Reach ts b c) : Reach ts a c := by
  induction k with
  | refl => exact h
  | step _ e ih => exact ih.step e
theorem Reach.symm {ts : List (Str × Str)} {a b : Str} (h : Reach ts a b) : Reach ts b a := by
  induction h with
  | refl => exact .refl
  | step _ e ih => exact (Reach.refl.step e.symm).trans ih
/-! beside, do_hang -/
def litT : D × D → Bool := fun _ => true
section
variable {FN : Nat → Option FnD} (B : FB FN) {S : Sto} {n : Nat}
include B
theorem beside_ok {ts : List (Str × Str)} {p : Str} (hl : ts.length ≤ LIM) : callN FN none (n + 1) 21 [.d (encTs ts), .d (.str p)] S = some (.d (.list ((nb ts p).map .str)), S) := by
  refine call_rt' B.f21 rfl rfl rfl _ rfl (Ends.retX ?_)
  rw [ev_lcP encT ts (fun t => decide (p = t.1 ∨ p = t.2)) (fun t => .str (if t.2 = p then t.1 else t.2)) (S1 := S) (by simp [encTs]) hl fun t _ => ⟨[some (.d (encTs ts)), some (.d (.str p)), some (.d (.str t.1)), some (.d (.str t.2))], by simp [encT, wipe1]; rfl, ?_, fun _ => ?_⟩]
  · unfold nb; rw [List.map_map]; rfl
  · have h : cmpD .In (.str p) (.tuple [.str t.1, .str t.2]) = some (decide (p ∈ [t.1, t.2])) := cmpD_inT p [t.1, t.2] (by decide)
    simp [cmpW_d, lim, LIM, h]
  · simp [cmpW_d]
    by_cases h : t.2 = p <;> simp [h]
/-- keys alone -/
def setD (F : List Str) : List (D × D) := F.map fun p => (.str p, .bool true)
omit B in
theorem find_any {α : Type} (l : List α) (p : α → Bool) : (l.find? p).isSome = l.any p := by
  rw [Bool.eq_iff_iff, List.find?_isSome, List.any_eq_true]
omit B in
theorem dget_set (F : List Str) (q : Str) : (dget (setD F) (.str q)).isSome = decide (q ∈ F) := by
  unfold dget setD
  rw [Option.isSome_map, find_any, List.any_map]
  rw [show ((fun p : D × D => PyData.eqv p.1 (.str q)) ∘ fun p : Str => (PyData.str p, PyData.bool true)) = fun p => PyData.eqv (.str p) (.str q) from rfl]
  have := any_toD F q
  rw [List.any_map] at this
  exact this
omit B in
theorem setIS_set {i : Nat} {F : List Str} {q : Str} (h : S[i]? = some (.dct false (setD F))) (hq : q ∉ F) (hl : F.length < LIM) : setIS S i (.str q) (.bool true) = some (S.set i (.dct false (setD (F ++ [q])))) := by
  unfold setIS
  rw [h]
  have e : (dget (setD F) (.str q)).isSome = false := by rw [dget_set]; simpa using hq
  have hl' : (setD F).length < LIM := by unfold setD; simpa using hl
  simp [keyD, isTupD, hl', dput, e]
  simp [setD]
/-- one popped: its neighbours -/
def hangStep (F L : List Str) : List Str → List Str × List Str
  | [] => (F, L)
  | q :: r => if q ∈ F then hangStep F L r else hangStep (F ++ [q]) (L ++ [q]) r
omit B in
theorem hangStep_spec : ∀ (r F L : List Str), ∃ N : List Str, hangStep F L r = (F ++ N, L ++ N) ∧ N.Nodup ∧ (∀ q ∈ N, q ∈ r ∧ q ∉ F) ∧ ∀ q ∈ r, q ∈ F ++ N
  | [], F, L => ⟨[], by simp [hangStep], by simp, by simp, by simp⟩
  | q :: r, F, L => by
    unfold hangStep
    by_cases h : q ∈ F
    · rw [if_pos h]
      obtain ⟨N, h1, h2, h3, h4⟩ := hangStep_spec r F L
      refine ⟨N, h1, h2, fun x hx => ⟨by simp [(h3 x hx).1], (h3 x hx).2⟩, fun x hx => ?_⟩
      rcases List.mem_cons.mp hx with rfl | hx
      · simp [h]
      · exact h4 x hx
    · rw [if_neg h]
      obtain ⟨N, h1, h2, h3, h4⟩ := hangStep_spec r (F ++ [q]) (L ++ [q])
      refine ⟨q :: N, by rw [h1]; simp, List.nodup_cons.mpr ⟨fun z => (h3 q z).2 (by simp), h2⟩, fun x hx => ?_, fun x hx => ?_⟩
      · rcases List.mem_cons.mp hx with rfl | hx
        · exact ⟨by simp, h⟩
        · exact ⟨by simp [(h3 x hx).1], fun z => (h3 x hx).2 (by simp [z])⟩
      · rcases List.mem_cons.mp hx with rfl | hx
        · simp
        · simpa using h4 x hx
/-- what has been found so far -/
structure Hang (ps : List Str) (ts : List (Str × Str)) (a : Str) (F L : List Str) : Prop where
  nd : F.Nodup
  sub : ∀ q ∈ F, q ∈ ps
  at_ : a ∈ F
  re : ∀ q ∈ F, Reach ts a q
  lin : ∀ q ∈ L, q ∈ F
  cl : ∀ q ∈ F, q ∉ L → ∀ r, adj ts q r → r ∈ F
omit B in
theorem Hang.next {ps : List Str} {ts : List (Str × Str)} {a p : Str} {F L : List Str} (ht : ∀ t ∈ ts, t.1 ∈ ps ∧ t.2 ∈ ps ∧ t.1 ≠ t.2) (h : Hang ps ts a F (L ++ [p])) :
    ∃ N, hangStep F L (nb ts p) = (F ++ N, L ++ N) ∧ Hang ps ts a (F ++ N) (L ++ N) := by
  obtain ⟨N, h1, h2, h3, h4⟩ := hangStep_spec (nb ts p) F L
  have hp : p ∈ F := h.lin p (by simp)
  have ha : ∀ q, q ∈ nb ts p ↔ adj ts p q := fun q => mem_nb fun t z => (ht t z).2.2
  refine ⟨N, h1, ⟨?_, ?_, by simp [h.at_], ?_, ?_, ?_⟩⟩
  · rw [List.nodup_append]
    exact ⟨h.nd, h2, fun x hx y hy e => (h3 y hy).2 (e ▸ hx)⟩
  · intro q hq
    rcases List.mem_append.mp hq with hq | hq
    · exact h.sub q hq
    · rcases (ha q).mp (h3 q hq).1 with z | z
      · exact (ht _ z).2.1
      · exact (ht _ z).1
  · intro q hq
    rcases List.mem_append.mp hq with hq | hq
    · exact h.re q hq
    · exact (h.re p hp).step ((ha q).mp (h3 q hq).1)
  · intro q hq
    rcases List.mem_append.mp hq with hq | hq
    · have := h.lin q (by simp [hq]); simp [this]
    · simp [hq]
  · intro q hq hn r hr
    rw [List.mem_append, not_or] at hn
    rcases List.mem_append.mp hq with hq | hq
    · by_cases e : q = p
      · subst e
        exact h4 r ((ha r).mpr hr)
      · have := h.cl q hq (by simp [hn.1, e]) r hr; simp [this]
    · exact absurd hq hn.2
omit B in
theorem Hang.done {ps : List Str} {ts : List (Str × Str)} {a : Str} {F : List Str} (h : Hang ps ts a F []) (nd : ps.Nodup) : (F.length = ps.length) ↔ ∀ q ∈ ps, Reach ts a q := by
  have hr : ∀ q, Reach ts a q → q ∈ F := fun q z => by
    induction z with
    | refl => exact h.at_
    | step _ e ih => exact h.cl _ ih (by simp) _ e
  constructor
  · intro e q hq
    exact h.re q (nodup_full h.nd h.sub (by omega) q hq)
  · intro e
    have h1 := nodup_len h.nd h.sub
    have h2 := nodup_len nd fun q hq => hr q (e q hq)
    omega
open Classical in
theorem do_hang_ok {a : Str} {ps : List Str} {ts : List (Str × Str)} (hl : ts.length ≤ LIM) (hpl : (a :: ps).length ≤ 1000) (nd : (a :: ps).Nodup) (ht : ∀ t ∈ ts, t.1 ∈ a :: ps ∧ t.2 ∈ a :: ps ∧ t.1 ≠ t.2) :
    callN FN none (n + 2) 22 [.d (encL (a :: ps)), .d (encTs ts)] S = some (.d (.bool (decide (∀ q ∈ a :: ps, Reach ts a q))), S) := by
  refine call_rt' B.f22 rfl rfl rfl [some (.d (encL (a :: ps))), some (.d (encTs ts)), none, none, none] rfl ?_
  have e0 : subD (encL (a :: ps)) (.int 0) = some (.str a) := sub_t0
  refine Ends.step ⟨[some (.d (encL (a :: ps))), some (.d (encTs ts)), some (.ref S.length), some (.ref (S.length + 1)), none], S ++ [.dct false (setD [a]), .lst ([a].map .str)], by simp [e0, keyA, freshI, lim, LIM, setD], ?_⟩
  refine Ends.whl (fun m e S' => ∃ (F L : List Str) (x : Option W), e = [some (.d (encL (a :: ps))), some (.d (encTs ts)), some (.ref S.length), some (.ref (S.length + 1)), x] ∧ S' = S ++ [.dct false (setD F), .lst (L.map .str)] ∧ Hang (a :: ps) ts a F L ∧ L.length + 2 * ((a :: ps).length - F.length) ≤ m ∧ L.length ≤ F.length) (1 + 2 * (a :: ps).length) ⟨[a], [a], none, rfl, rfl, ⟨by simp, by simp, by simp, fun q hq => by simp at hq; subst hq; exact .refl, by simp, fun q hq hn => absurd hq hn⟩, by simp; omega, by simp⟩ ?_
  rintro m e S' ⟨F, L, x, rfl, rfl, hh, hm, hLF⟩
  have hne : cmpD .NotEq (.list (L.map .str)) (.list []) = some (decide (L ≠ [])) := ne_nil L (by decide)
  have h0 : (S ++ [.dct false (setD F), .lst (L.map .str)])[S.length]? = some (.dct false (setD F)) := st_get0
  have h1 : (S ++ [.dct false (setD F), .lst (L.map .str)])[S.length + 1]? = some (.lst (L.map .str)) := st_get1
  have hFp : F.length ≤ (a :: ps).length := nodup_len hh.nd hh.sub
  rcases List.eq_nil_or_concat L with rfl | ⟨L, p, rfl⟩
  · have ec : cmpW .NotEq (S ++ [.dct false (setD F), .lst []]) (.ref (S.length + 1)) (.d (.list [])) = some false := (cmpW_lst h1).trans (hne.trans (by simp))
    refine .inl ⟨S ++ [.dct false (setD F), .lst []], by simp [lim, LIM, ec], ?_⟩
    refine Ends.retP (w := .d (.bool (decide (∀ q ∈ a :: ps, Reach ts a q)))) (S1 := S ++ [.dct false (setD F), .lst []]) ?_ ⟨rfl, st_take⟩
    have hd := hh.done nd
    have hb : biWW .len [.ref S.length] (S ++ [.dct false (setD F), .lst []]) = some (.d (.int F.length), S ++ [.dct false (setD F), .lst []]) := by
      rw [biWW_r (rd_dct (kvs := setD F) (t := false) st_get0), bi_lenM]
      have : lenD (.dict (setD F)) = some F.length := by
        show (if ((setD F).all fun p => keyD p.1) then some (setD F).length else none) = _
        rw [if_pos (by unfold setD; rw [List.all_map, List.all_eq_true]; intro _ _; rfl)]
        unfold setD; simp
      rw [this]; rfl
    have hq : lenD (encL (a :: ps)) = some (ps.length + 1) := by unfold encL; rw [len_t]; simp
    simp only [ev_cmp, ev_bi, ev_cons, ev_nil, ev_v, slot_0, slot_s, Option.map_some, bd_some, hb, biWW_1, bi_lenM, hq, cmpW_d, eq_int]
    have hz : decide ((F.length : Int) = ((ps.length + 1 : Nat) : Int)) = decide (∀ q ∈ a :: ps, Reach ts a q) := by
      rw [decide_eq_decide, ← hd]
      simp
      omega
    rw [hz]
  · rw [List.concat_eq_append] at hh h1 hm hne hLF
    obtain ⟨N, hN, hh'⟩ := hh.next ht
    have hFN : (F ++ N).length ≤ (a :: ps).length := nodup_len hh'.nd hh'.sub
    rw [List.concat_eq_append]
    have ec : cmpW .NotEq (S ++ [.dct false (setD F), .lst ((L ++ [p]).map .str)]) (.ref (S.length + 1)) (.d (.list [])) = some true := by
      exact (cmpW_lst h1).trans (hne.trans (by simp))
    obtain ⟨fl, e2, S2, hb, rfl, hx2, hS2⟩ := Ends.for (call := callN FN none (n + 1)) (t := .nm 4) (it := .e (.call 21 (.cons (.v 1) (.cons (.me .pop (.v 3) .nil) .nil)))) (b := .cons (.ite (.cmp .NotIn (.v 4) (.v 2)) (.cons (.setI (.v 2) (.v 4) (.k (.bool true))) (.cons (.ex (.me .append (.v 3) (.cons (.v 4) .nil))) .nil)) .nil) .nil) (r := .nil)
      (e := [some (.d (encL (a :: ps))), some (.d (encTs ts)), some (.ref S.length), some (.ref (S.length + 1)), x]) (S := S ++ [.dct false (setD F), .lst ((L ++ [p]).map .str)])
      (P := fun fl e2 S2 => fl = .nx ∧ (∃ y, e2 = [some (.d (encL (a :: ps))), some (.d (encTs ts)), some (.ref S.length), some (.ref (S.length + 1)), y]) ∧ S2 = S ++ [.dct false (setD (F ++ N)), .lst ((L ++ N).map .str)])
      PyData.str (nb ts p) (fun r e S' => ∃ (F' L' : List Str) (y : Option W), e = [some (.d (encL (a :: ps))), some (.d (encTs ts)), some (.ref S.length), some (.ref (S.length + 1)), y] ∧ S' = S ++ [.dct false (setD F'), .lst (L'.map .str)] ∧ hangStep F' L' r = (F ++ N, L ++ N) ∧ L'.length ≤ F'.length)
      (S1 := S ++ [.dct false (setD F), .lst (L.map .str)]) (by
        have h2 : (S ++ [MO.dct false (setD F), .lst ((L ++ [p]).map PyData.str)])[S.length + 1]? = some (.lst (L.map .str ++ [.str p])) := by rw [st_get1]; simp
        have h3 := mm_pop h2
        rw [st_set1] at h3
        have h4 := meTy_lst (m := .pop) h1 (by simp) (by simp)
        simp only [List.map_append, List.map_cons, List.map_nil] at h3 h4
        simp [h4, h3, beside_ok B hl])
      ⟨F, L, x, rfl, rfl, hN, by simp at hLF; omega⟩ (by
        rintro q r e S' ⟨F', L', y, rfl, rfl, hs, hl'⟩
        have g0 : (S ++ [.dct false (setD F'), .lst (L'.map .str)])[S.length]? = some (.dct false (setD F')) := st_get0
        have g1 : (S ++ [.dct false (setD F'), .lst (L'.map .str)])[S.length + 1]? = some (.lst (L'.map .str)) := st_get1
        have ei : cmpW .NotIn (S ++ [.dct false (setD F'), .lst (L'.map .str)]) (.d (.str q)) (.ref S.length) = some (decide (q ∉ F')) := by
          rw [cmpW_nin g0 (by rfl), dget_set]; simp
        unfold hangStep at hs
        by_cases hq : q ∈ F'
        · rw [if_pos hq] at hs
          refine ⟨[some (.d (encL (a :: ps))), some (.d (encTs ts)), some (.ref S.length), some (.ref (S.length + 1)), some (.d (.str q))], [some (.d (encL (a :: ps))), some (.d (encTs ts)), some (.ref S.length), some (.ref (S.length + 1)), some (.d (.str q))], _, by simp, ?_, F', L', _, rfl, rfl, hs, hl'⟩
          rw [ex_cons]
          simp [ei, hq, ex_nil]
        · rw [if_neg hq] at hs
          refine ⟨[some (.d (encL (a :: ps))), some (.d (encTs ts)), some (.ref S.length), some (.ref (S.length + 1)), some (.d (.str q))], [some (.d (encL (a :: ps))), some (.d (encTs ts)), some (.ref S.length), some (.ref (S.length + 1)), some (.d (.str q))], _, by simp, ?_, F' ++ [q], L' ++ [q], _, rfl, rfl, hs, by simp; exact hl'⟩
          have hF' : F'.length < LIM := by
            obtain ⟨N', z1, z2, z3, z4⟩ := hangStep_spec r (F' ++ [q]) (L' ++ [q])
            rw [z1] at hs
            have := congrArg (fun p : List Str × List Str => p.1.length) hs
            simp at this hFN hpl
            unfold LIM; omega
          have k1 := setIS_set g0 hq hF'
          rw [st_set0] at k1
          have g1' : (S ++ [.dct false (setD (F' ++ [q])), .lst (L'.map .str)])[S.length + 1]? = some (.lst (L'.map .str)) := st_get1
          have k2 := mm_append (x := .str q) g1' (by rw [List.length_map]; omega)
          rw [st_set1] at k2
          rw [ex_cons]
          simp [ei, hq, ex_nil, ex_cons, k1, meTy_lst g1', k2])
      (by
        rintro e S' ⟨F', L', y, rfl, rfl, hs, _⟩
        cases hs
        exact Ends.nil ⟨rfl, ⟨_, rfl⟩, rfl⟩)
    obtain ⟨y, rfl⟩ := hx2
    have et : tb (evE (callN FN none (n + 1)) (.cmp .NotEq (.v 3) (.lst .nil)) [some (.d (encL (a :: ps))), some (.d (encTs ts)), some (.ref S.length), some (.ref (S.length + 1)), x] (S ++ [.dct false (setD F), .lst ((L ++ [p]).map .str)])) = some (true, S ++ [.dct false (setD F), .lst ((L ++ [p]).map .str)]) := by
      simp only [List.map_append, List.map_cons, List.map_nil] at ec
      simp [lim, LIM, ec]
    refine .inr ⟨_, _, S2, m - 1, et, hb, ?_, ?_⟩
    · simp at hm; omega
    · refine ⟨F ++ N, L ++ N, _, rfl, hS2, hh', ?_, ?_⟩
      · simp at hm hFN ⊢; omega
      · simp at hLF ⊢; omega
end
end RW
set_option Elab.async false
set_option linter.all false
set_option maxRecDepth 100000
set_option maxHeartbeats 2000000
namespace RW
open PySem PySem.W
/-- the defs of webs and ways -/
structure FW (FN : Nat → Option FnD) : Prop extends FB FN where
  f24 : FN 24 = some fd__law_shuffled
  f28 : FN 28 = some fd__law_web
  f29 : FN 29 = some fd__law_made
  f30 : FN 30 = some fd__law_near
  f31 : FN 31 = some fd__law_ways
  f36 : FN 36 = some fd_ways_between
  f37 : FN 37 = some fd_check_web
def setFW (x r : W) (f : Str) (e : Env1) (S : Sto) : Option ((Fl × Env1) × Sto) := match r with
    | .ref n => match S[n]?, pd x with
      | some (.ins c []), some x => some ((.nx, e), S.set n (.ins c [(f, x)]))
      | _, _ => none
    | _ => none
@[simp] theorem ex_setF {call : Call} {fu : Option Nat} {e : Env1} {S : Sto} {a b : E} {f : Str} : exT call fu (.setF a f b) e S = bd (evE call b e S) fun x S => bd (evE call a e S) fun r S => setFW x r f e S := by simp only [exT]; rfl
structure okWeb (ps : List Str) (ts : List (Str × Str)) : Prop where
  pl : okPlaces ps
  ti : okTies ps ts
  re : ∀ p ∈ ps, ∀ q ∈ ps, Reach ts p q
def partsD (ps : List Str) (ts : List (Str × Str)) : D := .tuple [encL ps, encTs ts]
def webD (ps : List Str) (ts : List (Str × Str)) : D := instD (Str.ofString "Web") [(Str.ofString "all_told", partsD ps ts)]
theorem sLt_irrefl (x : Str) : sLt x x = false := by unfold sLt; simp
theorem okPlaces.nd {ps : List Str} (h : okPlaces ps) : ps.Nodup := h.2.2.2.imp fun {a b} q e => by subst e; rw [sLt_irrefl] at q; cases q
theorem okTies.ne {ps : List Str} {ts : List (Str × Str)} (h : okTies ps ts) : ∀ t ∈ ts, t.1 ∈ ps ∧ t.2 ∈ ps ∧ t.1 ≠ t.2 := fun t ht => by
  obtain ⟨h1, h2, h3⟩ := h.2.2.1 t ht
  exact ⟨h1, h2, fun e => by rw [e, sLt_irrefl] at h3; cases h3⟩
section
variable {FN : Nat → Option FnD} (B : FB FN) {S : Sto} {n : Nat} {ps : List Str} {ts : List (Str × Str)}
include B
open Classical in
theorem init_ok (h : okWeb ps ts) : callN FN none (n + 7) 10 [.ref S.length, .d (encL ps), .d (encTs ts)] (S ++ [.ins (Str.ofString "Web") []]) = some (.d .none, S ++ [.ins (Str.ofString "Web") [(Str.ofString "all_told", partsD ps ts)]]) := by
  obtain ⟨a, ps', rfl⟩ : ∃ a ps', ps = a :: ps' := by
    cases ps with
    | nil => exact absurd h.pl.1 (by simp)
    | cons a r => exact ⟨a, r, rfl⟩
  have hl : ts.length ≤ LIM := Nat.le_trans h.ti.2.1 (by decide)
  obtain ⟨y, S2, h1, rfl, rfl⟩ := call_ends B.f10 rfl rfl rfl (ws := [.ref S.length, .d (encL (a :: ps')), .d (encTs ts)]) (n := n + 6) (S := S ++ [.ins (Str.ofString "Web") []]) (P := fun fl _ S' => fl = .nx ∧ S' = S ++ [.ins (Str.ofString "Web") [(Str.ofString "all_told", partsD (a :: ps') ts)]]) (by
    refine Ends.for (α := D) id [] (fun r e S' => r = [] ∧ (∃ x, e = [some (.ref S.length), some (.d (encL (a :: ps'))), some (.d (encTs ts)), x]) ∧ S' = S ++ [.ins (Str.ofString "Web") []]) (S1 := S ++ [.ins (Str.ofString "Web") []]) ?_ ⟨rfl, ⟨none, rfl⟩, rfl⟩ (fun x r e S hI => by cases hI.1) ?_
    · simp [places_ok B (n := n + 1) h.pl]
    rintro e S' ⟨-, ⟨x, rfl⟩, rfl⟩
    refine Ends.for (α := D) id [] (fun r e S' => r = [] ∧ (∃ x, e = [some (.ref S.length), some (.d (encL (a :: ps'))), some (.d (encTs ts)), x]) ∧ S' = S ++ [.ins (Str.ofString "Web") []]) (S1 := S ++ [.ins (Str.ofString "Web") []]) ?_ ⟨rfl, ⟨x, rfl⟩, rfl⟩ (fun x r e S hI => by cases hI.1) ?_
    · simp [ties_ok B (n := n) h.ti]
    rintro e S' ⟨-, ⟨x, rfl⟩, rfl⟩
    have hh : ∀ S, callN FN none (n + 6) 22 [.d (encL (a :: ps')), .d (encTs ts)] S = some (.d (.bool true), S) := fun S => by
      rw [do_hang_ok B (n := n + 4) hl (Nat.le_trans h.pl.2.1 (by decide)) h.pl.nd h.ti.ne]
      have hz : ∀ q ∈ a :: ps', Reach ts a q := fun q hq => h.re a (by simp) q hq
      rw [decide_eq_true hz]
    refine Ends.step ⟨_, S ++ [.ins (Str.ofString "Web") []], by simp [hh, ex_nil]; rfl, ?_⟩
    refine Ends.step ⟨_, S ++ [.ins (Str.ofString "Web") [(Str.ofString "all_told", partsD (a :: ps') ts)]], by simp [lim, LIM, setFW, partsD]; rfl, ?_⟩
    exact Ends.nil ⟨rfl, rfl⟩) (fun y S2 => y = .d .none ∧ S2 = S ++ [.ins (Str.ofString "Web") [(Str.ofString "all_told", partsD (a :: ps') ts)]]) (by
    rintro fl e S' ⟨rfl, rfl⟩
    exact ⟨.d .none, .inl ⟨rfl, rfl⟩, .d .none, S ++ [.ins (Str.ofString "Web") [(Str.ofString "all_told", partsD (a :: ps') ts)]], by rw [handBack_d rfl, List.take_of_length_le (by simp)], rfl, rfl⟩)
  exact h1
theorem mkI_ok (h : okWeb ps ts) : mkI (callN FN none (n + 7)) 10 (Str.ofString "Web") [.d (encL ps), .d (encTs ts)] S = some (.d (webD ps ts), S) := by
  unfold mkI
  rw [init_ok B h, bd_some]
  simp [webD]
end
section
variable {FN : Nat → Option FnD} (F : FW FN) {S : Sto} {n : Nat} {ps : List Str} {ts : List (Str × Str)}
include F
theorem made_ok (h : okWeb ps ts) : callN FN none (n + 8) 29 [.d (partsD ps ts)] S = some (.d (webD ps ts), S) := by
  refine call_rt' F.f29 rfl rfl rfl _ rfl (Ends.retX ?_)
  have e0 : subD (partsD ps ts) (.int 0) = some (encL ps) := sub_t0
  have e1 : subD (partsD ps ts) (.int 1) = some (encTs ts) := sub_t1
  have := mkI_ok F.toFB (S := S) (n := n) h
  simp [e0, e1, this]
theorem check_web_ok : callN FN none (n + 1) 37 [.d (webD ps ts)] S = some (.d .none, S) := by
  refine call_nx' F.f37 rfl rfl rfl _ rfl ?_
  have e : isD "Web" (webD ps ts) = some true := by simp [isD, isFn, webD, instD, isInst]
  refine Ends.step ⟨_, S, by simp [e, ex_nil]; rfl, ?_⟩
  exact Ends.nil ⟨rfl, List.take_length⟩
end
end RW
set_option Elab.async false
set_option linter.all false
set_option maxRecDepth 100000
set_option maxHeartbeats 2000000
namespace RW
open PySem PySem.W
/-! ## the order of data with a Lean type -/
section
variable {α : Type} [DecidableEq α] [DatumOrd α]
theorem dlt_irrefl (a : α) : DatumOrd.lt a a = false := by rw [← DatumOrd.lt_eq]; exact PyProof.Rows.lex_irrefl _
theorem dlt_trans {a b c : α} (h : DatumOrd.lt a b = true) (k : DatumOrd.lt b c = true) : DatumOrd.lt a c = true := by
  rw [← DatumOrd.lt_eq] at h k ⊢
  exact PyProof.Rows.lex_trans _ _ _ h k
theorem dlt_neg {a c : α} (b : α) (h : DatumOrd.lt a c = true) : DatumOrd.lt a b = true ∨ DatumOrd.lt b c = true := by
  rw [← DatumOrd.lt_eq] at h
  rw [← DatumOrd.lt_eq, ← DatumOrd.lt_eq]
  exact PyProof.Rows.lex_negTrans _ _ _ h
theorem dlt_total {a b : α} (h : DatumOrd.lt a b = false) (k : DatumOrd.lt b a = false) : a = b := by
  rw [← DatumOrd.lt_eq] at h k
  have e := PyProof.Rows.lex_total _ _ h k
  have t := (toks_eqv (Datum.toD a) (Datum.toD b) (DatumOrd.alike a b)).2
  cases q : PyData.eqv (Datum.toD a) (Datum.toD b) with
  | true => rw [Datum.eqv] at q; exact of_decide_eq_true q
  | false =>
    have t := t q [.inl 0] [.inl 1]
    rw [e, lex_pre, PyProof.Rows.lex_irrefl, lex_one] at t
    exact absurd t (by decide)
def dle (a b : α) : Bool := !DatumOrd.lt b a
theorem dle_trans (a b c : α) (h : dle a b = true) (k : dle b c = true) : dle a c = true := by
  unfold dle at *
  simp only [Bool.not_eq_true'] at *
  cases q : DatumOrd.lt c a with
  | false => rfl
  | true =>
    rcases dlt_neg b q with z | z
    · rw [z] at k; cases k
    · rw [z] at h; cases h
theorem dle_total (a b : α) : (dle a b || dle b a) = true := by
  unfold dle
  cases q : DatumOrd.lt b a with
  | false => rfl
  | true =>
    cases z : DatumOrd.lt a b with
    | false => rfl
    | true => have := dlt_trans q z; rw [dlt_irrefl] at this; cases this
theorem dle_anti {a b : α} (h : dle a b = true) (k : dle b a = true) : a = b := by
  unfold dle at h k
  simp only [Bool.not_eq_true'] at h k
  exact dlt_total k h
theorem dle_of_lt {a b : α} (h : DatumOrd.lt a b = true) : dle a b = true := by
  unfold dle
  cases q : DatumOrd.lt b a with
  | false => rfl
  | true => have := dlt_trans h q; rw [dlt_irrefl] at this; cases this
theorem lt_of_dle {a b : α} (h : dle a b = true) (k : a ≠ b) : DatumOrd.lt a b = true := by
  cases q : DatumOrd.lt a b with
  | true => rfl
  | false =>
    unfold dle at h
    simp only [Bool.not_eq_true'] at h
    exact absurd (dlt_total q h) k
/-- sorted by a key -/
def srtK {β : Type} (k : β → α) (l : List β) : List β := l.mergeSort fun a b => dle (k a) (k b)
theorem srtK_perm {β : Type} (k : β → α) (l : List β) : (srtK k l).Perm l := List.mergeSort_perm _ _
theorem srtK_pw {β : Type} (k : β → α) (l : List β) : (srtK k l).Pairwise fun a b => dle (k a) (k b) = true :=
  List.pairwise_mergeSort (fun a b c => dle_trans (k a) (k b) (k c)) (fun a b => dle_total (k a) (k b)) l
theorem srtK_uniq {β : Type} {k : β → α} (inj : ∀ a b, k a = k b → a = b) {l m : List β} (h : l.Pairwise fun a b => dle (k a) (k b) = true) (p : l.Perm m) : l = srtK k m :=
  List.Perm.eq_of_pairwise (fun a b _ _ h1 h2 => inj a b (dle_anti h1 h2)) h (srtK_pw k m) (p.trans (srtK_perm k m).symm)
theorem srtK_congr {β : Type} {k : β → α} (inj : ∀ a b, k a = k b → a = b) {l m : List β} (p : l.Perm m) : srtK k l = srtK k m := srtK_uniq inj (srtK_pw k l) ((srtK_perm k l).trans p)
theorem srtK_mem {β : Type} {k : β → α} {l : List β} {x : β} : x ∈ srtK k l ↔ x ∈ l := (srtK_perm k l).mem_iff
theorem srtK_nodup {β : Type} {k : β → α} {l : List β} : (srtK k l).Nodup ↔ l.Nodup := (srtK_perm k l).nodup_iff
theorem srtK_len {β : Type} {k : β → α} {l : List β} : (srtK k l).length = l.length := (srtK_perm k l).length_eq
def srt (l : List α) : List α := srtK id l
/-- strictly -/
theorem srt_lt {l : List α} (nd : l.Nodup) : (srt l).Pairwise fun a b => DatumOrd.lt a b = true := by
  have h1 := srtK_pw id l
  have h2 : (srtK id l).Nodup := srtK_nodup.mpr nd
  exact (h1.and h2).imp fun ⟨h, k⟩ => lt_of_dle h k
theorem sortD_map (l : List α) : sortD (l.map Datum.toD) = (srt l).map Datum.toD := by
  unfold sortD srt srtK
  symm
  refine List.map_mergeSort fun a _ b _ => ?_
  rw [dataLe_eq]
  show dle a b = !dataLt (Datum.toD b) (Datum.toD a)
  rw [DatumOrd.lt_eq]; rfl
theorem sortOk_of (l : List α) (hd : Datum.depth α ≤ 60) (hl : l.length ≤ LIM) (ht : (∀ a ∈ l, tup1 (Datum.toD a) = true) ∨ ∀ a : α, isTupD (Datum.toD a) = false) : sortOk (l.map Datum.toD) = true := by
  unfold sortOk
  have h1 : allAlike (l.map Datum.toD) = true := by
    unfold allAlike
    simp only [List.all_map, List.all_eq_true, Function.comp]
    exact fun a _ b _ => DatumOrd.alike a b
  have h2 : (l.map Datum.toD).all okD = true := all_okD l hd
  rw [h1, h2]
  have h3 : lim (l.map Datum.toD).length = true := by rw [List.length_map]; simpa [lim] using hl
  rw [h3]
  simp only [Bool.true_and, Bool.or_eq_true]
  rcases ht with ht | ht
  · refine .inl ?_
    rw [List.all_map, List.all_eq_true]; exact ht
  · refine .inr ?_
    rw [List.all_map, List.all_eq_true]
    intro a _
    show (notN (Datum.toD a) && !isTupD (Datum.toD a)) = true
    rw [notN_toD, ht]; rfl
end
theorem flatMap_cg {α β : Type} {f g : α → List β} : ∀ {l : List α}, (∀ x ∈ l, f x = g x) → l.flatMap f = l.flatMap g
  | [], _ => rfl
  | x :: l, h => by rw [List.flatMap_cons, List.flatMap_cons, h x (by simp), flatMap_cg fun y hy => h y (by simp [hy])]
/-! ## chains -/
section
variable {α : Type} {R : α → α → Prop}
def chn (R : α → α → Prop) : List α → Prop
  | [] => True
  | [_] => True
  | x :: y :: r => R x y ∧ chn R (y :: r)
theorem chn_snoc : ∀ {l : List α} {x : α}, chn R (l ++ [x]) ↔ chn R l ∧ ∀ y, l.getLast? = some y → R y x
  | [], x => by simp [chn]
  | [y], x => by simp [chn]
  | y :: z :: r, x => by
    have ih := chn_snoc (l := z :: r) (x := x)
    show R y z ∧ chn R ((z :: r) ++ [x]) ↔ (R y z ∧ chn R (z :: r)) ∧ _
    rw [ih, List.getLast?_cons_cons, and_assoc]
theorem chn_left : ∀ {l r : List α}, chn R (l ++ r) → chn R l
  | [], r, _ => trivial
  | [y], r, _ => trivial
  | y :: z :: l, r, h => ⟨h.1, chn_left (l := z :: l) (r := r) h.2⟩
theorem chn_tail : ∀ {x : α} {l : List α}, chn R (x :: l) → chn R l
  | x, [], _ => trivial
  | x, y :: l, h => h.2
theorem chn_rev (sy : ∀ a b, R a b → R b a) : ∀ {l : List α}, chn R l → chn R l.reverse
  | [], _ => trivial
  | [x], _ => trivial
  | x :: y :: r, h => by
    have ih := chn_rev sy (l := y :: r) h.2
    rw [List.reverse_cons, chn_snoc]
    refine ⟨ih, fun z hz => ?_⟩
    rw [List.getLast?_reverse] at hz
    cases hz
    exact sy _ _ h.1
end
/-! ## ways -/
def lst (w : List Str) : Str := w.getLast?.getD Str.empty
theorem lst_snoc (w : List Str) (x : Str) : lst (w ++ [x]) = x := by simp [lst]
section
variable (ts : List (Str × Str)) (b : Str)
def kids (w : List Str) : List (List Str) := ((nb ts (lst w)).filter fun q => decide (q ∉ w)).map fun q => w ++ [q]
def comp : Nat → List Str → List (List Str)
  | 0, w => if lst w = b then [w] else []
  | k + 1, w => if lst w = b then [w] else (kids ts w).flatMap (comp k)
def siz : Nat → List Str → Nat
  | 0, _ => 1
  | k + 1, w => 1 + if lst w = b then 0 else ((kids ts w).map (siz k)).sum
/-- a way begun -/
structure Pth (ps w : List Str) : Prop where
  ne : w ≠ []
  nd : w.Nodup
  sub : ∀ x ∈ w, x ∈ ps
def wsF (N : Nat) (w : List Str) : List (List Str) := comp ts b (N - w.length) w
def szF (N : Nat) (w : List Str) : Nat := siz ts b (N - w.length) w
end
section
variable {ts : List (Str × Str)} {b : Str} {ps : List Str}
theorem Pth.last {w : List Str} (h : Pth ps w) : w.getLast? = some (lst w) := by
  unfold lst
  cases q : w.getLast? with
  | none => exact absurd (List.getLast?_eq_none_iff.mp q) h.ne
  | some x => rfl
theorem Pth.len {w : List Str} (h : Pth ps w) : w.length ≤ ps.length := nodup_len h.nd h.sub
theorem mem_kids {w v : List Str} : v ∈ kids ts w ↔ ∃ q, q ∈ nb ts (lst w) ∧ q ∉ w ∧ v = w ++ [q] := by
  unfold kids
  rw [List.mem_map]
  constructor
  · rintro ⟨q, hq, rfl⟩
    rw [List.mem_filter, decide_eq_true_eq] at hq
    exact ⟨q, hq.1, hq.2, rfl⟩
  · rintro ⟨q, h1, h2, rfl⟩
    exact ⟨q, List.mem_filter.mpr ⟨h1, by simpa using h2⟩, rfl⟩
variable (ht : ∀ t ∈ ts, t.1 ∈ ps ∧ t.2 ∈ ps ∧ t.1 ≠ t.2)
include ht
theorem Pth.kid {w v : List Str} (h : Pth ps w) (hv : v ∈ kids ts w) : Pth ps v ∧ v.length = w.length + 1 := by
  obtain ⟨q, h1, h2, rfl⟩ := mem_kids.mp hv
  refine ⟨⟨by simp, ?_, fun x hx => ?_⟩, by simp⟩
  · rw [List.nodup_append]
    exact ⟨h.nd, by simp, fun x hx y hy e => by simp at hy; subst hy; exact h2 (e ▸ hx)⟩
  · rcases List.mem_append.mp hx with hx | hx
    · exact h.sub x hx
    · simp at hx
      subst hx
      rcases (mem_nb fun t z => (ht t z).2.2).mp h1 with z | z
      · exact (ht _ z).2.1
      · exact (ht _ z).1
theorem kids_full {w : List Str} (h : Pth ps w) (hl : ps.length ≤ w.length) : kids ts w = [] := by
  refine List.eq_nil_iff_forall_not_mem.mpr fun v hv => ?_
  have h1 := (h.kid ht hv).2
  have h2 := (h.kid ht hv).1.len
  omega
theorem wsF_eq {w : List Str} (h : Pth ps w) : wsF ts b ps.length w = if lst w = b then [w] else (kids ts w).flatMap (wsF ts b ps.length) := by
  unfold wsF
  have hl := h.len
  cases hk : ps.length - w.length with
  | zero =>
    rw [kids_full ht h (by omega)]
    rfl
  | succ k =>
    show (if lst w = b then [w] else (kids ts w).flatMap (comp ts b k)) = _
    congr 1
    refine flatMap_cg fun v hv => ?_
    rw [(h.kid ht hv).2, show ps.length - (w.length + 1) = k by omega]
theorem szF_eq {w : List Str} (h : Pth ps w) : szF ts b ps.length w = 1 + if lst w = b then 0 else ((kids ts w).map (szF ts b ps.length)).sum := by
  unfold szF
  have hl := h.len
  cases hk : ps.length - w.length with
  | zero =>
    rw [kids_full ht h (by omega)]
    simp [siz]
  | succ k =>
    show 1 + (if lst w = b then 0 else ((kids ts w).map (siz ts b k)).sum) = _
    congr 3
    refine List.map_congr_left fun v hv => ?_
    rw [(h.kid ht hv).2, show ps.length - (w.length + 1) = k by omega]
omit ht in
theorem kids_len (w : List Str) : (kids ts w).length ≤ ts.length := by
  unfold kids nb
  rw [List.length_map]
  refine Nat.le_trans (List.length_filter_le _ _) ?_
  rw [List.length_map]
  exact List.length_filter_le _ _
omit ht in
theorem sum_le {α : Type} {f : α → Nat} {c : Nat} : ∀ {l : List α}, (∀ x ∈ l, f x ≤ c) → (l.map f).sum ≤ l.length * c
  | [], _ => by simp
  | x :: l, h => by
    have h1 := h x (by simp)
    have h2 := sum_le (l := l) fun y hy => h y (by simp [hy])
    rw [List.map_cons, List.sum_cons, List.length_cons, Nat.succ_mul]
    omega
omit ht in
theorem siz_le (h9 : ts.length ≤ 9) : ∀ (k : Nat) (w : List Str), siz ts b k w ≤ 10 ^ k
  | 0, w => by simp [siz]
  | k + 1, w => by
    unfold siz
    have h0 : 1 ≤ 10 ^ k := Nat.one_le_pow _ _ (by omega)
    rw [Nat.pow_succ]
    by_cases q : lst w = b
    · rw [if_pos q]; omega
    · rw [if_neg q]
      have := sum_le (f := siz ts b k) (c := 10 ^ k) (l := kids ts w) fun v _ => siz_le h9 k v
      have h2 : (kids ts w).length * 10 ^ k ≤ 9 * 10 ^ k := Nat.mul_le_mul_right _ (Nat.le_trans (kids_len w) h9)
      omega
omit ht in
theorem comp_len : ∀ (k : Nat) (w : List Str), (comp ts b k w).length ≤ siz ts b k w
  | 0, w => by unfold comp siz; split <;> simp
  | k + 1, w => by
    unfold comp siz
    by_cases q : lst w = b
    · rw [if_pos q, if_pos q]; simp
    · rw [if_neg q, if_neg q, List.length_flatMap]
      have : ∀ l : List (List Str), (l.map fun v => (comp ts b k v).length).sum ≤ (l.map (siz ts b k)).sum := fun l => by
        induction l with
        | nil => simp
        | cons x l ih => simp only [List.map_cons, List.sum_cons]; have := comp_len k x; omega
      have := this (kids ts w)
      omega
omit ht in
theorem szF_pos (N : Nat) (w : List Str) : 1 ≤ szF ts b N w := by
  unfold szF
  cases N - w.length <;> simp [siz]
/-- a whole way -/
structure IsW (ts : List (Str × Str)) (a b : Str) (w : List Str) : Prop where
  hd : w.head? = some a
  la : w.getLast? = some b
  nd : w.Nodup
  ch : chn (adj ts) w
theorem wsF_mem : ∀ (k : Nat) (v : List Str), Pth ps v → chn (adj ts) v → ps.length - v.length = k → ∀ w, w ∈ wsF ts b ps.length v ↔ v <+: w ∧ w.getLast? = some b ∧ w.Nodup ∧ chn (adj ts) w := by
  intro k
  induction k with
  | zero =>
    intro v hp hc hk w
    rw [wsF_eq ht hp, kids_full ht hp (by omega)]
    constructor
    · intro h
      by_cases q : lst v = b
      · rw [if_pos q] at h
        simp at h
        subst h
        exact ⟨List.prefix_refl _, by rw [hp.last, q], hp.nd, hc⟩
      · rw [if_neg q] at h; simp at h
    · rintro ⟨⟨u, rfl⟩, h2, h3, h4⟩
      cases u with
      | nil =>
        rw [List.append_nil] at h2 ⊢
        rw [hp.last] at h2
        rw [if_pos (Option.some.inj h2)]; simp
      | cons c u =>
        exfalso
        have h5 : adj ts (lst v) c := by
          have : chn (adj ts) (v ++ [c]) := chn_left (r := u) (by simpa using h4)
          exact (chn_snoc.mp this).2 _ hp.last
        have h6 : c ∉ v := fun z => by
          rw [List.nodup_append] at h3
          exact h3.2.2 c z c (by simp) rfl
        have : v ++ [c] ∈ kids ts v := mem_kids.mpr ⟨c, (mem_nb fun t z => (ht t z).2.2).mpr h5, h6, rfl⟩
        rw [kids_full ht hp (by omega)] at this
        simp at this
  | succ k ih =>
    intro v hp hc hk w
    rw [wsF_eq ht hp]
    have kid_ok : ∀ u, u ∈ kids ts v → Pth ps u ∧ chn (adj ts) u ∧ ps.length - u.length = k := fun u hu => by
      obtain ⟨h1, h2⟩ := hp.kid ht hu
      obtain ⟨q, h3, h4, rfl⟩ := mem_kids.mp hu
      refine ⟨h1, chn_snoc.mpr ⟨hc, fun y hy => ?_⟩, by omega⟩
      rw [hp.last] at hy
      cases hy
      exact (mem_nb fun t z => (ht t z).2.2).mp h3
    constructor
    · intro h
      by_cases q : lst v = b
      · rw [if_pos q] at h
        simp at h
        subst h
        exact ⟨List.prefix_refl _, by rw [hp.last, q], hp.nd, hc⟩
      · rw [if_neg q] at h
        obtain ⟨u, hu, hw⟩ := List.mem_flatMap.mp h
        obtain ⟨k1, k2, k3⟩ := kid_ok u hu
        obtain ⟨h1, h2⟩ := (ih u k1 k2 k3 w).mp hw
        obtain ⟨q', _, _, rfl⟩ := mem_kids.mp hu
        exact ⟨(List.prefix_append v [q']).trans h1, h2⟩
    · rintro ⟨⟨u, rfl⟩, h2, h3, h4⟩
      cases u with
      | nil =>
        rw [List.append_nil] at h2 ⊢
        rw [hp.last] at h2
        rw [if_pos (Option.some.inj h2)]; simp
      | cons c u =>
        have h5 : adj ts (lst v) c := by
          have : chn (adj ts) (v ++ [c]) := chn_left (r := u) (by simpa using h4)
          exact (chn_snoc.mp this).2 _ hp.last
        have h6 : c ∉ v := fun z => by
          rw [List.nodup_append] at h3
          exact h3.2.2 c z c (by simp) rfl
        have h7 : v ++ [c] ∈ kids ts v := mem_kids.mpr ⟨c, (mem_nb fun t z => (ht t z).2.2).mpr h5, h6, rfl⟩
        have q : lst v ≠ b := fun q => by
          have hb : b ∈ c :: u := by
            rw [List.getLast?_append] at h2
            have : (c :: u).getLast? = some b := by
              cases z : (c :: u).getLast? with
              | none => rw [List.getLast?_eq_none_iff] at z; cases z
              | some y => rw [z] at h2; exact h2
            exact List.mem_of_getLast? this
          have hv : b ∈ v := by rw [← q]; exact List.mem_of_getLast? hp.last
          rw [List.nodup_append] at h3
          exact h3.2.2 b hv b hb rfl
        rw [if_neg q, List.mem_flatMap]
        obtain ⟨k1, k2, k3⟩ := kid_ok _ h7
        exact ⟨_, h7, (ih _ k1 k2 k3 _).mpr ⟨⟨u, by simp⟩, h2, h3, h4⟩⟩
theorem one_pth {a : Str} (ha : a ∈ ps) : Pth ps [a] := ⟨by simp, by simp, by simpa using ha⟩
theorem wsF_isW {a : Str} (ha : a ∈ ps) {w : List Str} : w ∈ wsF ts b ps.length [a] ↔ IsW ts a b w := by
  rw [wsF_mem ht _ [a] (one_pth ht ha) trivial rfl]
  constructor
  · rintro ⟨⟨u, rfl⟩, h2, h3, h4⟩
    exact ⟨rfl, h2, h3, h4⟩
  · rintro ⟨h1, h2, h3, h4⟩
    refine ⟨?_, h2, h3, h4⟩
    cases w with
    | nil => cases h1
    | cons x r => cases h1; exact ⟨r, rfl⟩
theorem wsF_pre : ∀ (k : Nat) (v : List Str), Pth ps v → ps.length - v.length = k → ∀ w ∈ wsF ts b ps.length v, v <+: w := by
  intro k
  induction k with
  | zero =>
    intro v hp hk w hw
    rw [wsF_eq ht hp, kids_full ht hp (by omega)] at hw
    split at hw
    · simp at hw; subst hw; exact List.prefix_refl _
    · simp at hw
  | succ k ih =>
    intro v hp hk w hw
    rw [wsF_eq ht hp] at hw
    split at hw
    · simp at hw; subst hw; exact List.prefix_refl _
    · obtain ⟨u, hu, hw⟩ := List.mem_flatMap.mp hw
      obtain ⟨h1, h2⟩ := hp.kid ht hu
      have := ih u h1 (by omega) w hw
      obtain ⟨q', _, _, rfl⟩ := mem_kids.mp hu
      exact (List.prefix_append v [q']).trans this
theorem nb_nodup (hts : ts.Nodup) (hlt : ∀ t ∈ ts, sLt t.1 t.2 = true) (p : Str) : (nb ts p).Nodup := by
  unfold nb
  unfold List.Nodup
  rw [List.pairwise_map]
  have h1 : (ts.filter fun t => decide (p = t.1 ∨ p = t.2)).Pairwise (· ≠ ·) := hts.filter _
  refine List.Pairwise.imp_of_mem ?_ h1
  rintro ⟨a1, a2⟩ ⟨b1, b2⟩ ha hb hne e
  rw [List.mem_filter, decide_eq_true_eq] at ha hb
  obtain ⟨ha, pa⟩ := ha
  obtain ⟨hb, pb⟩ := hb
  have na := hlt _ ha
  have nb := hlt _ hb
  have asy : ∀ x y : Str, sLt x y = true → sLt y x = true → False := fun x y h k => by
    unfold sLt at h k
    rw [decide_eq_true_eq] at h k
    exact absurd (List.lt_trans h k) (List.lt_irrefl _)
  simp only at pa pb na nb e
  by_cases q1 : a2 = p <;> by_cases q2 : b2 = p
  · rw [if_pos q1, if_pos q2] at e; subst q1 e q2; exact hne rfl
  · rw [if_pos q1, if_neg q2] at e
    have : p = b1 := pb.resolve_right fun z => q2 z.symm
    subst q1 this e; exact asy _ _ na nb
  · rw [if_neg q1, if_pos q2] at e
    have : p = a1 := pa.resolve_right fun z => q1 z.symm
    subst q2 this e; exact asy _ _ na nb
  · rw [if_neg q1, if_neg q2] at e
    have h1 : p = a1 := pa.resolve_right fun z => q1 z.symm
    have h2 : p = b1 := pb.resolve_right fun z => q2 z.symm
    subst h1 e; rw [← h2] at hne; exact hne rfl
theorem wsF_nodup (hn : ∀ p, (nb ts p).Nodup) : ∀ (k : Nat) (v : List Str), Pth ps v → ps.length - v.length = k → (wsF ts b ps.length v).Nodup := by
  intro k
  induction k with
  | zero =>
    intro v hp hk
    rw [wsF_eq ht hp, kids_full ht hp (by omega)]
    split <;> simp
  | succ k ih =>
    intro v hp hk
    rw [wsF_eq ht hp]
    split
    · simp
    · unfold List.Nodup
      rw [List.pairwise_flatMap]
      refine ⟨fun u hu => ?_, ?_⟩
      · obtain ⟨h1, h2⟩ := hp.kid ht hu
        exact ih u h1 (by omega)
      · have hk : (kids ts v).Pairwise (· ≠ ·) := by
          unfold kids
          rw [List.pairwise_map]
          exact ((hn (lst v)).filter _).imp fun h e => h (by simpa using e)
        refine List.Pairwise.imp_of_mem ?_ hk
        intro u u' hu hu' hne x hx y hy e
        subst e
        obtain ⟨h1, h2⟩ := hp.kid ht hu
        obtain ⟨h3, h4⟩ := hp.kid ht hu'
        have p1 := wsF_pre ht k u h1 (by omega) x hx
        have p2 := wsF_pre ht k u' h3 (by omega) x hy
        exact hne ((List.prefix_of_prefix_length_le p1 p2 (by omega)).eq_of_length (by omega))
end
end RW
set_option Elab.async false
set_option linter.all false
set_option maxRecDepth 100000
set_option maxHeartbeats 2000000
namespace RW
open PySem PySem.W
def wayKey (w : List Str) : Int × Tup Str := ((w.length : Nat), ⟨w⟩)
theorem wayKey_inj (a b : List Str) (h : wayKey a = wayKey b) : a = b := congrArg (fun p : Int × Tup Str => p.2.items) h
/-- all ways, by how many ties, then as Python compares them -/
def ways (ts : List (Str × Str)) (N : Nat) (a b : Str) : List (List Str) := srtK wayKey (wsF ts b N [a])
@[simp] theorem att_ties {ps : List Str} {ts : List (Str × Str)} : attD (webD ps ts) (Str.ofString "ties") = some (encTs ts) := by
  simp only [webD, instD, partsD, attD, List.map_cons, List.map_nil]
  rw [if_pos (by decide +kernel), if_neg (by decide +kernel), if_pos (by decide +kernel)]
@[simp] theorem att_places {ps : List Str} {ts : List (Str × Str)} : attD (webD ps ts) (Str.ofString "places") = some (encL ps) := by
  simp only [webD, instD, partsD, attD, List.map_cons, List.map_nil]
  rw [if_pos (by decide +kernel), if_pos (by decide +kernel)]
theorem sub_lst {w : List Str} {x : Str} (h : w.getLast? = some x) : subD (encL w) (.int (-1)) = some (.str x) := sub_tl (by rw [List.getLast?_map, h]; rfl)
theorem eqW (a b : List Str) : cmpD .Eq (encL a) (encL b) = some (decide (a = b)) := by
  refine (cmpD_eq (Tup.mk a) (Tup.mk b) (by decide)).trans ?_
  congr 1
  rw [decide_eq_decide]
  exact ⟨fun h => congrArg Tup.items h, fun h => by rw [h]⟩
theorem key_toD (w : List Str) : (.tuple [.int (((lenD (encL w)).getD 0 : Nat) : Int), encL w] : D) = Datum.toD (wayKey w) := by
  unfold wayKey encL
  rw [len_t, List.length_map]
  rfl
theorem sortKeyLen_ways : ∀ F : List (List Str), sortKeyLen (F.map encL) = some ((F.map wayKey).map Datum.toD)
  | [] => rfl
  | w :: F => by
    have ih := sortKeyLen_ways F
    unfold sortKeyLen at ih ⊢
    rw [List.map_cons, List.mapM_cons, ih]
    have e : lenD (encL w) = some w.length := by unfold encL; rw [len_t, List.length_map]
    rw [e]
    rfl
theorem srtW_ways {F : List (List Str)} {S : Sto} {x : W} (h : rd S x = some (.list (F.map encL))) (hl : F.length ≤ LIM) : srtW x S = some (.d (.list ((srtK wayKey F).map encL)), S) := by
  unfold srtW
  rw [h, ob_some]
  show ob (sortKeyLen (F.map encL)) _ = _
  have ht : (F.map encL).all tupA = true := by
    rw [List.all_map, List.all_eq_true]
    intro w _
    show (w.map PyData.str).all atomB = true
    rw [List.all_map, List.all_eq_true]; intro _ _; rfl
  rw [sortKeyLen_ways, ob_some, if_pos (by rw [sortOk_of (F.map wayKey) (by decide) (by simpa using hl) (.inl fun a _ => rfl), ht]; rfl)]
  congr 3
  congr 1
  unfold srtK
  symm
  refine List.map_mergeSort fun a _ b _ => ?_
  rw [dataLe_eq]
  show dle (wayKey a) (wayKey b) = !dataLt _ _
  rw [key_toD, key_toD, DatumOrd.lt_eq]
  rfl
theorem ne_nilW (L : List (List Str)) : cmpD .NotEq (.list (L.map encL)) (.list []) = some (decide (L ≠ [])) := by
  have h := ne_nil (L.map Tup.mk) (by decide)
  rw [List.map_map] at h
  have e : L.map (Datum.toD ∘ Tup.mk) = L.map encL := rfl
  rw [e] at h
  rw [h]
  congr 1
  cases L <;> simp
section
variable {FN : Nat → Option FnD} (F : FW FN) {S : Sto} {n : Nat} {ps : List Str} {ts : List (Str × Str)}
include F
theorem kids_ok {w : List Str} (hl : ts.length ≤ LIM) (hw : w ≠ []) (hwl : w.length < 1000) {e : Env1} (h0 : slot e 0 = some (.d (webD ps ts))) (h5 : slot e 5 = some (.d (encL w))) (he : e.length = 7) :
    evE (callN FN none (n + 1)) (.lc (.tup (.star (.v 5) (.cons (.v 6) .nil))) (.mk (.nm 6) (.e (.call 21 (.cons (.att (.v 0) (Str.ofString "ties")) (.cons (.sub (.v 5) (.neg (.k (.int 1)))) .nil)))) (.so (.cmp .NotIn (.v 6) (.v 5)))) [6]) e S = some (.d (.list ((kids ts w).map encL)), S) := by
  match e, he with
  | [e0, e1, e2, e3, e4, e5, e6], _ =>
    simp only [slot_0, slot_s] at h0 h5
    subst h0 h5
    have hla : w.getLast? = some (lst w) := by
      unfold lst
      cases q : w.getLast? with
      | none => exact absurd (List.getLast?_eq_none_iff.mp q) hw
      | some x => rfl
    rw [ev_lcP PyData.str (nb ts (lst w)) (fun q => decide (q ∉ w)) (fun q => encL (w ++ [q])) (S1 := S) (by
      simp [sub_lst hla, beside_ok F.toFB hl]) (by
      unfold nb
      rw [List.length_map]
      exact Nat.le_trans (List.length_filter_le _ _) hl) fun q _ => ⟨[some (.d (webD ps ts)), e1, e2, e3, e4, some (.d (encL w)), some (.d (.str q))], by simp [wipe1], ?_, fun hq => ?_⟩]
    · unfold kids; rw [List.map_map]; rfl
    · have h : cmpD .NotIn (.str q) (encL w) = some (decide (q ∉ w)) := cmpD_ninT q w (by decide)
      simp [cmpW_d, h]
    · have hp : pds (w.map (W.d ∘ PyData.str) ++ [.d (.str q)]) = some ((w ++ [q]).map .str) := by
        rw [show w.map (W.d ∘ PyData.str) ++ [.d (.str q)] = ((w ++ [q]).map PyData.str).map W.d by simp, pds_map]
      have hs : ∀ m : Sto → Option (List W × Sto), starV m (.d (encL w)) S = bd (m S) fun xs S => some ((w.map .str).map .d ++ xs, S) := fun m => rfl
      have hl2 : lim (w.length + 1) = true := by unfold lim LIM; simp; omega
      simp [hs, hp, hl2]
      simp [encL]
theorem ways_between_ok (h : okWeb ps ts) {a b : Str} (ha : a ∈ ps) : callN FN none (n + 2) 36 [.d (webD ps ts), .d (.str a), .d (.str b)] S = some (.d (.list ((ways ts ps.length a b).map encL)), S) := by
  refine call_rt' F.f36 rfl rfl rfl [some (.d (webD ps ts)), some (.d (.str a)), some (.d (.str b)), none, none, none, none] rfl ?_
  have ht := h.ti.ne
  have hl : ts.length ≤ LIM := Nat.le_trans h.ti.2.1 (by decide)
  have hp := one_pth ht ha
  have hN : ps.length ≤ 6 := h.pl.2.1
  have hN1 : 1 ≤ ps.length := by have := h.pl.1; omega
  have hz : szF ts b ps.length [a] ≤ 100000 := by
    unfold szF
    refine Nat.le_trans (siz_le h.ti.2.1 _ _) ?_
    exact Nat.le_trans (Nat.pow_le_pow_right (by omega) (show ps.length - [a].length ≤ 5 by simp; omega)) (by decide)
  have hc : (wsF ts b ps.length [a]).length ≤ 100000 := Nat.le_trans (comp_len _ _) hz
  refine Ends.step ⟨[some (.d (webD ps ts)), some (.d (.str a)), some (.d (.str b)), some (.ref S.length), some (.ref (S.length + 1)), none, none], S ++ [.lst (([] : List (List Str)).map encL), .lst ([[a]].map encL)], by simp [lim, LIM, freshI]; rfl, ?_⟩
  refine Ends.whl (fun m e S' => ∃ (Fo L : List (List Str)) (x y : Option W), e = [some (.d (webD ps ts)), some (.d (.str a)), some (.d (.str b)), some (.ref S.length), some (.ref (S.length + 1)), x, y] ∧ S' = S ++ [.lst (Fo.map encL), .lst (L.map encL)] ∧
    (∀ w ∈ L, Pth ps w) ∧ (Fo ++ L.flatMap (wsF ts b ps.length)).Perm (wsF ts b ps.length [a]) ∧ (L.map (szF ts b ps.length)).sum = m ∧ m ≤ 100000) (szF ts b ps.length [a])
    ⟨[], [[a]], none, none, rfl, rfl, by simpa using hp, by simp, by simp, hz⟩ ?_
  rintro m e S' ⟨Fo, L, x, y, rfl, rfl, hL, hP, hm, hm2⟩
  have h0 : (S ++ [.lst (Fo.map encL), .lst (L.map encL)])[S.length]? = some (.lst (Fo.map encL)) := st_get0
  have h1 : (S ++ [.lst (Fo.map encL), .lst (L.map encL)])[S.length + 1]? = some (.lst (L.map encL)) := st_get1
  have hFl : Fo.length ≤ 100000 := by
    have := hP.length_eq
    rw [List.length_append] at this
    omega
  have hLm : ∀ l : List (List Str), l.length ≤ (l.map (szF ts b ps.length)).sum := fun l => by
    induction l with
    | nil => simp
    | cons w l ih => have := szF_pos (ts := ts) (b := b) ps.length w; simp; omega
  rcases List.eq_nil_or_concat L with rfl | ⟨L, w, rfl⟩
  · have ec : cmpW .NotEq (S ++ [.lst (Fo.map encL), .lst []]) (.ref (S.length + 1)) (.d (.list [])) = some false := (cmpW_lst h1).trans ((ne_nilW []).trans (by simp))
    refine .inl ⟨S ++ [.lst (Fo.map encL), .lst []], by simp [lim, LIM, ec], ?_⟩
    refine Ends.retP (w := .d (.list ((ways ts ps.length a b).map encL))) (S1 := S ++ [.lst (Fo.map encL), .lst []]) ?_ ⟨rfl, st_take⟩
    have e := srtW_ways (x := .ref S.length) (rd_lst h0) (F := Fo) (Nat.le_trans hFl (by decide))
    rw [List.flatMap_nil, List.append_nil] at hP
    rw [srtK_congr wayKey_inj hP] at e
    simp only [ev_srt, ev_v, slot_0, slot_s, Option.map_some, bd_some]
    exact e
  · rw [List.concat_eq_append] at hL hP hm h0 h1 ⊢
    have hpw : Pth ps w := hL w (by simp)
    have hwl : w.length < 1000 := by have := hpw.len; omega
    have et : tb (evE (callN FN none (n + 1)) (.cmp .NotEq (.v 4) (.lst .nil)) [some (.d (webD ps ts)), some (.d (.str a)), some (.d (.str b)), some (.ref S.length), some (.ref (S.length + 1)), x, y] (S ++ [.lst (Fo.map encL), .lst ((L ++ [w]).map encL)])) = some (true, S ++ [.lst (Fo.map encL), .lst ((L ++ [w]).map encL)]) := by
      have ec : cmpW .NotEq (S ++ [.lst (Fo.map encL), .lst ((L ++ [w]).map encL)]) (.ref (S.length + 1)) (.d (.list [])) = some true := (cmpW_lst h1).trans ((ne_nilW _).trans (by simp))
      simp only [ev_cmp, ev_v, slot_0, slot_s, Option.map_some, bd_some, ev_lst, ev_nil, pds_nil, ob_some]
      rw [if_pos (by decide), bd_some, ec]
      rfl
    have h3 := mm_pop (i := S.length + 1) (x := encL w) (xs := L.map encL) (S := S ++ [.lst (Fo.map encL), .lst ((L ++ [w]).map encL)]) (by rw [h1]; simp)
    rw [st_set1] at h3
    have h4 := meTy_lst (m := .pop) h1 (by simp) (by simp)
    have s1 : exT (callN FN none (n + 1)) none (.asg (.nm 5) (.me .pop (.v 4) .nil)) [some (.d (webD ps ts)), some (.d (.str a)), some (.d (.str b)), some (.ref S.length), some (.ref (S.length + 1)), x, y] (S ++ [.lst (Fo.map encL), .lst ((L ++ [w]).map encL)]) = some ((.nx, [some (.d (webD ps ts)), some (.d (.str a)), some (.d (.str b)), some (.ref S.length), some (.ref (S.length + 1)), some (.d (encL w)), y]), S ++ [.lst (Fo.map encL), .lst (L.map encL)]) := by
      simp only [ex_asg, ev_me, ev_v, slot_0, slot_s, Option.map_some, bd_some, h4, if_true, ev_nil, h3]
      rfl
    have h5 : (S ++ [.lst (Fo.map encL), .lst (L.map encL)])[S.length]? = some (.lst (Fo.map encL)) := st_get0
    have h6 : (S ++ [.lst (Fo.map encL), .lst (L.map encL)])[S.length + 1]? = some (.lst (L.map encL)) := st_get1
    have hsub := sub_lst hpw.last
    have hsum : (L.map (szF ts b ps.length)).sum + szF ts b ps.length w = m := by rw [← hm]; simp
    have hszw := szF_eq ht (b := b) hpw
    have hwsw := wsF_eq ht (b := b) hpw
    rw [List.flatMap_append] at hP
    by_cases q : lst w = b
    · refine .inr ⟨_, [some (.d (webD ps ts)), some (.d (.str a)), some (.d (.str b)), some (.ref S.length), some (.ref (S.length + 1)), some (.d (encL w)), y], S ++ [.lst ((Fo ++ [w]).map encL), .lst (L.map encL)], (L.map (szF ts b ps.length)).sum, et, ?_, ?_, Fo ++ [w], L, _, _, rfl, rfl, fun v hv => hL v (by simp [hv]), ?_, rfl, ?_⟩
      · rw [ex_cons, s1, bd_some, seqE_nx, ex_cons]
        have k2 := mm_append (x := encL w) h5 (by rw [List.length_map]; exact Nat.lt_of_le_of_lt hFl (by decide))
        rw [st_set0] at k2
        have k3 := meTy_lst (m := .append) h5 (by simp) (by simp)
        simp [hsub, cmpW_d, q, ex_cons, ex_nil, k2, k3]
      · have := szF_pos (ts := ts) (b := b) ps.length w; omega
      · rw [if_pos q] at hwsw
        refine List.Perm.trans ?_ hP
        simp only [List.flatMap_cons, List.flatMap_nil, List.append_nil, hwsw, List.append_assoc]
        exact List.Perm.append_left _ List.perm_append_comm
      · omega
    · rw [if_neg q] at hwsw hszw
      have hkl := hLm (kids ts w)
      refine .inr ⟨_, [some (.d (webD ps ts)), some (.d (.str a)), some (.d (.str b)), some (.ref S.length), some (.ref (S.length + 1)), some (.d (encL w)), y], S ++ [.lst (Fo.map encL), .lst ((L ++ kids ts w).map encL)], ((L ++ kids ts w).map (szF ts b ps.length)).sum, et, ?_, ?_, Fo, L ++ kids ts w, _, _, rfl, rfl, ?_, ?_, rfl, ?_⟩
      · rw [ex_cons, s1, bd_some, seqE_nx, ex_cons]
        have k1 := kids_ok F (S := S ++ [.lst (Fo.map encL), .lst (L.map encL)]) (n := n) (ps := ps) (ts := ts) (w := w) hl hpw.ne hwl (e := [some (.d (webD ps ts)), some (.d (.str a)), some (.d (.str b)), some (.ref S.length), some (.ref (S.length + 1)), some (.d (encL w)), y]) rfl rfl rfl
        have k2 := mm_extend (ys := (kids ts w).map encL) h6 (by rw [List.length_map, List.length_map]; have := hLm L; exact Nat.le_trans (show L.length + (kids ts w).length ≤ 100000 by omega) (by decide))
        rw [st_set1] at k2
        have k3 := meTy_lst (m := .extend) h6 (by simp) (by simp)
        simp [hsub, cmpW_d, q, ex_cons, ex_nil, k1, k2, k3]
      · simp; omega
      · intro v hv
        rcases List.mem_append.mp hv with hv | hv
        · exact hL v (by simp [hv])
        · exact (hpw.kid ht hv).1
      · refine List.Perm.trans ?_ hP
        simp only [List.flatMap_append, List.flatMap_cons, List.flatMap_nil, List.append_nil, hwsw]
        exact List.Perm.refl _
      · simp; omega
end
end RW
set_option Elab.async false
set_option linter.all false
set_option maxRecDepth 100000
set_option maxHeartbeats 2000000
namespace RW
open PySem PySem.W
theorem strsD_map : ∀ l : List Str, strsD (l.map .str) = some l
  | [] => rfl
  | x :: l => by rw [List.map_cons, strsD, strsD_map l]; rfl
theorem tiesD_map : ∀ l : List (Str × Str), tiesD (l.map encT) = some l
  | [] => rfl
  | x :: l => by
    show (tiesD (l.map encT)).map _ = _
    rw [tiesD_map l]; rfl
def nearD (ps : List Str) (ts : List (Str × Str)) : List (D × D) := ps.map fun p => (.str p, .list ((srt (nb ts p)).map .str))
theorem sorted_str {F : List Str} (h : F.length ≤ LIM) : biD .sorted [.list (F.map .str)] = some (.list ((srt F).map .str)) := by
  show (if sortOk (F.map PyData.str) then some (PyData.list (sortD (F.map .str))) else none) = _
  have e := sortOk_of F (by decide) h (.inr fun _ => rfl)
  have e2 := sortD_map F
  rw [show F.map PyData.str = F.map Datum.toD from rfl, if_pos e, e2]
  rfl
theorem sorted_tie {F : List (Str × Str)} (h : F.length ≤ LIM) : biD .sorted [.list (F.map encT)] = some (.list ((srt F).map encT)) := by
  show (if sortOk (F.map encT) then some (PyData.list (sortD (F.map encT))) else none) = _
  have e := sortOk_of F (by decide) h (.inl fun _ _ => rfl)
  have e2 := sortD_map F
  rw [show F.map encT = F.map Datum.toD from rfl, if_pos e, e2]
  rfl
theorem dget_map (f : Str → D) (q : Str) : ∀ ps : List Str, dget (ps.map fun p => (.str p, f p)) (.str q) = if q ∈ ps then some (f q) else none
  | [] => by simp [dget]
  | p :: ps => by
    have ih := dget_map f q ps
    unfold dget at ih ⊢
    rw [List.map_cons, List.find?_cons]
    have e : PyData.eqv (.str p) (.str q) = decide (p = q) := Datum.eqv p q
    simp only [e]
    by_cases h : p = q
    · subst h; simp
    · have h' : ¬ q = p := fun z => h z.symm
      simp only [decide_eq_false h]
      rw [ih]
      simp [h']
/-! owned lists, a place's each -/
def St (S : Sto) (ps : List Str) (f : Str → List D) : Sto := S ++ ps.map fun p => .lst (f p)
theorem st_at {S : Sto} {ps : List Str} {f : Str → List D} {q : Str} (hq : q ∈ ps) : (St S ps f)[S.length + ps.idxOf q]? = some (.lst (f q)) := by
  unfold St
  rw [List.getElem?_append_right (by omega), Nat.add_sub_cancel_left, List.getElem?_map, List.getElem?_eq_getElem (List.idxOf_lt_length_of_mem hq), List.getElem_idxOf]
  rfl
theorem st_put {S : Sto} {ps : List Str} {f : Str → List D} {q : Str} {y : List D} (nd : ps.Nodup) (hq : q ∈ ps) : (St S ps f).set (S.length + ps.idxOf q) (.lst y) = St S ps fun p => if p = q then y else f p := by
  unfold St
  rw [List.set_append_right _ _ (by omega), Nat.add_sub_cancel_left]
  congr 1
  apply List.ext_getElem?
  intro i
  rw [List.getElem?_set]
  by_cases hi : ps.idxOf q = i
  · subst hi
    rw [if_pos rfl, if_pos (by rw [List.length_map]; exact List.idxOf_lt_length_of_mem hq), List.getElem?_map, List.getElem?_eq_getElem (List.idxOf_lt_length_of_mem hq), List.getElem_idxOf]
    simp
  · rw [if_neg hi, List.getElem?_map, List.getElem?_map]
    by_cases hl : i < ps.length
    · rw [List.getElem?_eq_getElem hl]
      have : ¬ ps[i] = q := fun z => by
        have h1 := List.idxOf_lt_length_of_mem hq
        have h2 : ps[ps.idxOf q] = q := List.getElem_idxOf h1
        rcases Nat.lt_or_gt_of_ne hi with h3 | h3
        · exact List.pairwise_iff_getElem.mp nd _ _ h1 hl h3 (h2.trans z.symm)
        · exact List.pairwise_iff_getElem.mp nd _ _ hl h1 h3 (z.trans h2.symm)
      simp [this]
    · rw [List.getElem?_eq_none (by omega)]; rfl
theorem sub_dl {ps : List Str} {q : Str} {n : Nat} {S : Sto} (hq : q ∈ ps) : subRW (.drefs (ps.zipIdx.map fun p => (p.1, n + p.2))) (.d (.str q)) S = some (.ref (n + ps.idxOf q), S) := by
  have key : ∀ (ps : List Str) (k : Nat), q ∈ ps → (((ps.zipIdx k).map fun p => (p.1, n + p.2)).find? fun p => decide (p.1 = q)) = some (q, n + (k + ps.idxOf q)) := by
    intro ps
    induction ps with
    | nil => intro k h; cases h
    | cons p r ih =>
      intro k h
      rw [List.zipIdx_cons, List.map_cons]
      by_cases e : p = q
      · subst e
        rw [List.find?_cons_of_pos (by simp), List.idxOf_cons_self]
        rfl
      · rw [List.find?_cons_of_neg (by simp [e]), ih (k + 1) (by
          rcases List.mem_cons.mp h with z | z
          · exact absurd z.symm e
          · exact z), List.idxOf_cons, beq_false_of_ne e]
        simp only [Bool.cond_false]
        congr 2
        omega
  show Option.map _ _ = _
  rw [key ps 0 hq]
  simp
theorem nb_snoc {d : List (Str × Str)} {a b : Str} (h : a ≠ b) (p : Str) : nb (d ++ [(a, b)]) p = if p = a then nb d p ++ [b] else if p = b then nb d p ++ [a] else nb d p := by
  unfold nb
  rw [List.filter_append, List.map_append]
  by_cases h1 : p = a
  · subst h1
    have : ¬ b = p := fun z => h z.symm
    simp [this]
  · by_cases h2 : p = b
    · subst h2
      simp [h1]
    · simp [h1, h2]
theorem pairs_near {ps : List Str} {ts : List (Str × Str)} : pairsD (ps.map fun p => .tuple [.str p, .list ((srt (nb ts p)).map .str)]) = some (nearD ps ts) := by
  unfold nearD
  induction ps with
  | nil => rfl
  | cons p r ih =>
    rw [List.map_cons]
    show (if true = true then Option.map _ (pairsD _) else none) = _
    rw [if_pos rfl, ih]
    rfl
theorem dmake_near {ps : List Str} {ts : List (Str × Str)} (nd : ps.Nodup) : dmake (nearD ps ts) = nearD ps ts := by
  unfold dmake nearD
  have key : ∀ (r d : List Str), (d ++ r).Nodup → (r.map fun p => (PyData.str p, PyData.list ((srt (nb ts p)).map .str))).foldl (fun kvs p => dput kvs p.1 p.2) (d.map fun p => (PyData.str p, PyData.list ((srt (nb ts p)).map .str))) = (d ++ r).map fun p => (PyData.str p, PyData.list ((srt (nb ts p)).map .str)) := by
    intro r
    induction r with
    | nil => intro d _; simp
    | cons q r ih =>
      intro d hd
      rw [List.map_cons, List.foldl_cons]
      have hq : q ∉ d := by
        rw [List.nodup_append] at hd
        exact fun z => hd.2.2 q z q (by simp) rfl
      have e : dput (d.map fun p => (PyData.str p, PyData.list ((srt (nb ts p)).map .str))) (PyData.str q) (PyData.list ((srt (nb ts q)).map .str)) = (d ++ [q]).map fun p => (PyData.str p, PyData.list ((srt (nb ts p)).map .str)) := by
        unfold dput
        rw [dget_map (fun p => PyData.list ((srt (nb ts p)).map .str)) q d, if_neg hq]
        simp
      simp only [e]
      rw [ih (d ++ [q]) (by simpa using hd)]
      simp
  exact key ps [] (by simpa using nd)
theorem sub_near {ps : List Str} {ts : List (Str × Str)} {q : Str} (hq : q ∈ ps) : subD (.dict (nearD ps ts)) (.str q) = some (.list ((srt (nb ts q)).map .str)) := by
  show (if keysOk (nearD ps ts) (.str q) then dget (nearD ps ts) (.str q) else none) = _
  rw [if_pos, nearD, dget_map, if_pos hq]
  unfold keysOk nearD
  rw [List.all_map]
  cases ps with
  | nil => cases hq
  | cons a r => simp [keyD, isTupD]
section
variable {FN : Nat → Option FnD} (F : FW FN) {S : Sto} {n : Nat} {ps : List Str} {ts : List (Str × Str)}
include F
theorem near_ok (h : okWeb ps ts) : callN FN none (n + 1) 30 [.d (partsD ps ts)] S = some (.d (.dict (nearD ps ts)), S) := by
  have nd := h.pl.nd
  have hp : ps.length ≤ 1000 := Nat.le_trans h.pl.2.1 (by decide)
  have hl : ts.length ≤ 1000 := Nat.le_trans h.ti.2.1 (by decide)
  have hnb : ∀ (d : List (Str × Str)) (p : Str), (nb d p).length ≤ d.length := fun d p => by
    unfold nb; rw [List.length_map]; exact List.length_filter_le _ _
  refine call_rt' F.f30 rfl rfl rfl [some (.d (partsD ps ts)), none, none, none, none] rfl ?_
  refine Ends.step ⟨[some (.d (partsD ps ts)), some (.drefs (ps.zipIdx.map fun p => (p.1, S.length + p.2))), none, none, none], St S ps fun p => (nb [] p).map .str, ?_, ?_⟩
  · have e0 : subVV (.d (partsD ps ts)) (.d (.int 0)) S = some (.d (.tuple (ps.map .str)), S) := rfl
    have e1 : freshDW (.d (.tuple (ps.map .str))) S = some (.drefs (ps.zipIdx.map fun p => (p.1, S.length + p.2)), St S ps fun p => (nb [] p).map .str) := by
      show ob (strsD (ps.map .str)) _ = _
      rw [strsD_map, ob_some, if_pos (by rw [Bool.and_eq_true, decide_eq_true_eq, decide_eq_true_eq]; exact ⟨nd, hp⟩)]
      unfold St
      congr 3
      show _ = ps.map (fun p => MO.lst [])
      rw [List.map_const']
    simp [e0, e1]
  refine Ends.for encT ts (fun r e S2 => ∃ (d : List (Str × Str)) (y z : Option W), d ++ r = ts ∧ e = [some (.d (partsD ps ts)), some (.drefs (ps.zipIdx.map fun p => (p.1, S.length + p.2))), y, z, none] ∧ S2 = St S ps fun p => (nb d p).map .str) (S1 := St S ps fun p => (nb [] p).map .str) ?_ ⟨[], none, none, rfl, rfl, rfl⟩ ?_ ?_
  · have e0 : ∀ S', subVV (.d (partsD ps ts)) (.d (.int 1)) S' = some (.d (.tuple (ts.map encT)), S') := fun _ => rfl
    simp [e0]
  · rintro t r e S2 ⟨d, y, z, hd, rfl, rfl⟩
    have ht : t ∈ ts := by rw [← hd]; simp
    obtain ⟨h1, h2, h3⟩ := h.ti.ne t ht
    obtain ⟨a, b⟩ := t
    simp only at h1 h2 h3
    have hdl : d.length ≤ 1000 := by
      have := congrArg List.length hd
      rw [List.length_append] at this
      omega
    have eN : (fun p => (nb (d ++ [(a, b)]) p).map PyData.str) = fun p => if p = b then (if b = a then (nb d a).map PyData.str ++ [.str b] else (nb d b).map PyData.str) ++ [.str a] else if p = a then (nb d a).map .str ++ [.str b] else (nb d p).map .str := by
      funext p
      rw [nb_snoc h3]
      by_cases q1 : p = a
      · subst q1
        have q2 : ¬ p = b := h3
        simp [q2]
      · by_cases q2 : p = b
        · subst q2
          simp [q1]
        · simp [q1, q2]
    refine ⟨[some (.d (partsD ps ts)), some (.drefs (ps.zipIdx.map fun p => (p.1, S.length + p.2))), some (.d (.str a)), some (.d (.str b)), none], [some (.d (partsD ps ts)), some (.drefs (ps.zipIdx.map fun p => (p.1, S.length + p.2))), some (.d (.str a)), some (.d (.str b)), none], St S ps fun p => (nb (d ++ [(a, b)]) p).map .str, by simp [encT], ?_, d ++ [(a, b)], _, _, by simp [hd], rfl, rfl⟩
    have f1 : ∀ S', subRW (.drefs (ps.zipIdx.map fun p => (p.1, S.length + p.2))) (.d (.str a)) S' = some (.ref (S.length + ps.idxOf a), S') := fun _ => sub_dl h1
    have f2 : ∀ S', subRW (.drefs (ps.zipIdx.map fun p => (p.1, S.length + p.2))) (.d (.str b)) S' = some (.ref (S.length + ps.idxOf b), S') := fun _ => sub_dl h2
    have g1 := st_at (S := S) (f := fun p => (nb d p).map .str) h1
    have t1 := meTy_lst (m := .append) g1 (by simp) (by simp)
    have k1 := mm_append (x := .str b) g1 (by rw [List.length_map]; have := hnb d a; have hL : LIM = 16000000 := rfl; omega)
    rw [st_put nd h1] at k1
    have g2 := st_at (S := S) (f := fun p => if p = a then (nb d a).map PyData.str ++ [.str b] else (nb d p).map .str) h2
    have t2 := meTy_lst (m := .append) g2 (by simp) (by simp)
    have k2 := mm_append (x := .str a) g2 (by
      rw [if_neg (Ne.symm h3), List.length_map]; have := hnb d b; have hL : LIM = 16000000 := rfl; omega)
    rw [st_put nd h2] at k2
    rw [ex_cons, ex_ex, ev_me, ev_subR]
    simp only [ev_v, slot_0, slot_s, Option.map_some, bd_some, f1, t1, if_true, ev_cons, ev_nil, k1, seqE_nx]
    rw [ex_cons, ex_ex, ev_me, ev_subR]
    simp only [ev_v, slot_0, slot_s, Option.map_some, bd_some, f2, t2, if_true, ev_cons, ev_nil, k2, seqE_nx, ex_nil]
    rw [eN]
  · rintro e S2 ⟨d, y, z, hd, rfl, rfl⟩
    rw [List.append_nil] at hd
    subst hd
    refine Ends.ret ?_
    have hlc : evE (callN FN none n) (.lc (.tup (.cons (.v 4) (.cons (.bi .sorted (.cons (.subR (.v 1) (.v 4)) .nil)) .nil))) (.mk (.nm 4) (.e (.sub (.v 0) (.k (.int 0)))) .no) [4]) [some (.d (partsD ps d)), some (.drefs (ps.zipIdx.map fun p => (p.1, S.length + p.2))), y, z, none] (St S ps fun p => (nb d p).map .str) = some (.d (.list (ps.map fun p => .tuple [.str p, .list ((srt (nb d p)).map .str)])), St S ps fun p => (nb d p).map .str) := by
      refine ev_lcA PyData.str ps (fun p => .tuple [.str p, .list ((srt (nb d p)).map .str)]) ?_ (Nat.le_trans hp (by decide)) fun q hq => ⟨[some (.d (partsD ps d)), some (.drefs (ps.zipIdx.map fun p => (p.1, S.length + p.2))), y, z, some (.d (.str q))], by simp [wipe1], ?_⟩
      · have e0 : ∀ S', subVV (.d (partsD ps d)) (.d (.int 0)) S' = some (.d (.tuple (ps.map .str)), S') := fun _ => rfl
        simp [e0]
      · have f1 : ∀ S', subRW (.drefs (ps.zipIdx.map fun p => (p.1, S.length + p.2))) (.d (.str q)) S' = some (.ref (S.length + ps.idxOf q), S') := fun _ => sub_dl hq
        have g1 := st_at (S := S) (f := fun p => (nb d p).map .str) hq
        have hs := sorted_str (F := nb d q) (by have := hnb d q; have hL : LIM = 16000000 := rfl; omega)
        simp only [ev_tup, ev_cons, ev_nil, ev_v, slot_0, slot_s, Option.map_some, bd_some, ev_bi, ev_subR, f1]
        rw [biWW_r (rd_lst g1), hs]
        simp [lim, LIM]
    have hd' : ∀ S', dictW (.d (.list (ps.map fun p => .tuple [.str p, .list ((srt (nb d p)).map .str)]))) S' = some (.d (.dict (nearD ps d)), S') := fun S' => by
      show ob (pairsD _) _ = _
      rw [pairs_near, ob_some, if_pos, dmake_near nd]
      rw [Bool.and_eq_true, decide_eq_true_eq]
      refine ⟨by unfold nearD; rw [List.length_map]; exact hp, ?_⟩
      unfold nearD
      rw [List.all_map, List.all_eq_true]
      exact fun _ _ => rfl
    rw [ev_dictOf, hlc, bd_some, hd']
    exact ⟨_, _, rfl, rfl, by unfold St; simp⟩
end
/-- the ways a step longer, by ascending places -/
def kidsS (ts : List (Str × Str)) (w : List Str) : List (List Str) := ((srt (nb ts (lst w))).filter fun q => decide (q ∉ w)).map fun q => w ++ [q]
theorem kidsS_perm (ts : List (Str × Str)) (w : List Str) : (kidsS ts w).Perm (kids ts w) := ((srtK_perm id _).filter _).map _
theorem perm_flatMap {α β : Type} {f g : α → List β} : ∀ {l : List α}, (∀ x ∈ l, (f x).Perm (g x)) → (l.flatMap f).Perm (l.flatMap g)
  | [], _ => .refl _
  | x :: l, h => by rw [List.flatMap_cons, List.flatMap_cons]; exact (h x (by simp)).append (perm_flatMap fun y hy => h y (by simp [hy]))
theorem sum_filter {α : Type} (f : α → Nat) (p : α → Bool) : ∀ l : List α, ((l.filter p).map f).sum ≤ (l.map f).sum
  | [] => by simp
  | x :: l => by
    have := sum_filter f p l
    rw [List.filter_cons]
    split <;> simp <;> omega
theorem perm_split {α : Type} (p : α → Bool) : ∀ l : List α, l.Perm (l.filter p ++ l.filter fun x => !p x)
  | [] => .refl _
  | x :: l => by
    have ih := perm_split p l
    cases h : p x with
    | true => simp [List.filter_cons, h]; exact ih
    | false =>
      simp only [List.filter_cons, h, Bool.not_false, if_true]
      simp
      exact (ih.cons x).trans (List.perm_middle.symm)
theorem sum_flat {α β : Type} (f : β → Nat) (g : α → List β) : ∀ l : List α, ((l.flatMap g).map f).sum = (l.map fun x => ((g x).map f).sum).sum
  | [] => rfl
  | x :: l => by simp [sum_flat f g l]
section
variable {FN : Nat → Option FnD} (F : FW FN) {S : Sto} {n : Nat} {ps : List Str} {ts : List (Str × Str)}
include F
theorem law_ways_ok (h : okWeb ps ts) {a b : Str} (ha : a ∈ ps) (hab : a ≠ b) : callN FN none (n + 2) 31 [.d (partsD ps ts), .d (.str a), .d (.str b)] S = some (.d (.list ((ways ts ps.length a b).map encL)), S) := by
  refine call_rt' F.f31 rfl rfl rfl [some (.d (partsD ps ts)), some (.d (.str a)), some (.d (.str b)), none, none, none, none, none, none] rfl ?_
  have ht := h.ti.ne
  have hl : ts.length ≤ LIM := Nat.le_trans h.ti.2.1 (by decide)
  have hp := one_pth ht ha
  have hN : ps.length ≤ 6 := h.pl.2.1
  have hN1 : 1 ≤ ps.length := by have := h.pl.1; omega
  have hz : szF ts b ps.length [a] ≤ 100000 := by
    unfold szF
    refine Nat.le_trans (siz_le h.ti.2.1 _ _) ?_
    exact Nat.le_trans (Nat.pow_le_pow_right (by omega) (show ps.length - [a].length ≤ 5 by simp; omega)) (by decide)
  have hc : (wsF ts b ps.length [a]).length ≤ 100000 := Nat.le_trans (comp_len _ _) hz
  have hLm : ∀ l : List (List Str), l.length ≤ (l.map (szF ts b ps.length)).sum := fun l => by
    induction l with
    | nil => simp
    | cons w l ih => have := szF_pos (ts := ts) (b := b) ps.length w; simp; omega
  refine Ends.step ⟨[some (.d (partsD ps ts)), some (.d (.str a)), some (.d (.str b)), some (.d (.dict (nearD ps ts))), some (.d (.list ([[a]].map encL))), some (.d (.list (([] : List (List Str)).map encL))), none, none, none], S, by simp [near_ok F h, lim, LIM]; rfl, ?_⟩
  refine Ends.whl (fun m e S' => ∃ (R Fo : List (List Str)) (ℓ : Nat) (x y z : Option W), e = [some (.d (partsD ps ts)), some (.d (.str a)), some (.d (.str b)), some (.d (.dict (nearD ps ts))), some (.d (.list (R.map encL))), some (.d (.list (Fo.map encL))), x, y, z] ∧ S' = S ∧
    (∀ w ∈ R, Pth ps w ∧ lst w ≠ b ∧ w.length = ℓ) ∧ (Fo ++ R.flatMap (wsF ts b ps.length)).Perm (wsF ts b ps.length [a]) ∧ (Fo.Pairwise fun u v => dle (wayKey u) (wayKey v) = true) ∧ (∀ w ∈ Fo, w.length ≤ ℓ) ∧ (R.map (szF ts b ps.length)).sum ≤ m ∧ m ≤ 100000) (szF ts b ps.length [a])
    ⟨[[a]], [], 1, none, none, none, rfl, rfl, by simpa using ⟨hp, hab⟩, by simp, by simp, by simp, by simp, hz⟩ ?_
  rintro m e S' ⟨R, Fo, ℓ, x, y, z, rfl, rfl, hR, hP, hpw, hFl, hm, hm2⟩
  have hFo : Fo.length ≤ 100000 := by
    have := hP.length_eq
    rw [List.length_append] at this
    omega
  have ec := ne_nilW R
  by_cases q : R = []
  · subst q
    refine .inl ⟨S', by simp only [ev_cmp, ev_v, slot_0, slot_s, Option.map_some, bd_some, ev_lst, ev_nil, pds_nil, ob_some]; rw [if_pos (by decide), bd_some, cmpW_d, ec]; rfl, ?_⟩
    refine Ends.retX ?_
    rw [List.flatMap_nil, List.append_nil] at hP
    simp only [ev_v, slot_0, slot_s, Option.map_some]
    rw [srtK_uniq wayKey_inj hpw hP]
    rfl
  · have et : tb (evE (callN FN none (n + 1)) (.cmp .NotEq (.v 4) (.lst .nil)) [some (.d (partsD ps ts)), some (.d (.str a)), some (.d (.str b)), some (.d (.dict (nearD ps ts))), some (.d (.list (R.map encL))), some (.d (.list (Fo.map encL))), x, y, z] S') = some (true, S') := by
      simp only [ev_cmp, ev_v, slot_0, slot_s, Option.map_some, bd_some, ev_lst, ev_nil, pds_nil, ob_some]
      rw [if_pos (by decide), bd_some, cmpW_d, ec, decide_eq_true q]; rfl
    have hzR : ∀ w ∈ R, szF ts b ps.length w = 1 + ((kids ts w).map (szF ts b ps.length)).sum := fun w hw => by rw [szF_eq ht (hR w hw).1, if_neg (hR w hw).2.1]
    have hwR : ∀ w ∈ R, wsF ts b ps.length w = (kids ts w).flatMap (wsF ts b ps.length) := fun w hw => by rw [wsF_eq ht (hR w hw).1, if_neg (hR w hw).2.1]
    have hnew : (R.flatMap (kidsS ts)).Perm (R.flatMap (kids ts)) := perm_flatMap fun w _ => kidsS_perm ts w
    have hnz : ((R.flatMap (kidsS ts)).map (szF ts b ps.length)).sum + R.length = (R.map (szF ts b ps.length)).sum := by
      rw [(hnew.map (szF ts b ps.length)).sum_nat, sum_flat]
      have : ∀ l : List (List Str), (∀ w ∈ l, szF ts b ps.length w = 1 + ((kids ts w).map (szF ts b ps.length)).sum) → (l.map fun w => ((kids ts w).map (szF ts b ps.length)).sum).sum + l.length = (l.map (szF ts b ps.length)).sum := fun l => by
        induction l with
        | nil => simp
        | cons w l ih =>
          intro hh
          have h1 := ih fun v hv => hh v (by simp [hv])
          have h2 := hh w (by simp)
          simp
          omega
      exact this R hzR
    have hnl := hLm (R.flatMap (kidsS ts))
    have hRl : 1 ≤ R.length := List.length_pos_iff.mpr q
    have hkS : ∀ v ∈ R.flatMap (kidsS ts), Pth ps v ∧ v.length = ℓ + 1 := fun v hv => by
      obtain ⟨w, hw, hv⟩ := List.mem_flatMap.mp (hnew.mem_iff.mp hv)
      obtain ⟨h1, h2⟩ := (hR w hw).1.kid ht hv
      exact ⟨h1, by rw [h2, (hR w hw).2.2]⟩
    obtain ⟨fl, e2, S2, hb, rfl, ⟨x2, y2, z2, rfl⟩, rfl⟩ : Ends (callN FN none (n + 1)) (Ts.cons (.asg (.nm 6) (.lst .nil)) (.cons (.for (.nm 7) (.e (.v 4)) (.cons (.asg (.nm 6) (.bin .Add (.v 6) (.lc (.bin .Add (.v 7) (.tup (.cons (.v 8) .nil))) (.mk (.nm 8) (.e (.sub (.v 3) (.sub (.v 7) (.neg (.k (.int 1)))))) (.so (.cmp .NotIn (.v 8) (.v 7)))) [8]))) .nil)) (.cons (.asg (.nm 4) (.lc (.v 7) (.mk (.nm 7) (.e (.v 6)) (.so (.cmp .NotEq (.sub (.v 7) (.neg (.k (.int 1)))) (.v 2)))) [7])) (.cons (.asg (.nm 5) (.bin .Add (.v 5) (.bi .sorted (.cons (.lc (.v 7) (.mk (.nm 7) (.e (.v 6)) (.so (.cmp .Eq (.sub (.v 7) (.neg (.k (.int 1)))) (.v 2)))) [7]) .nil)))) .nil))))
        [some (.d (partsD ps ts)), some (.d (.str a)), some (.d (.str b)), some (.d (.dict (nearD ps ts))), some (.d (.list (R.map encL))), some (.d (.list (Fo.map encL))), x, y, z] S' (fun fl e2 S2 => fl = .nx ∧ (∃ x y z, e2 = [some (.d (partsD ps ts)), some (.d (.str a)), some (.d (.str b)), some (.d (.dict (nearD ps ts))), some (.d (.list (((R.flatMap (kidsS ts)).filter fun w => decide (lst w ≠ b)).map encL))), some (.d (.list ((Fo ++ srtK Tup.mk ((R.flatMap (kidsS ts)).filter fun w => decide (lst w = b))).map encL))), x, y, z]) ∧ S2 = S') := by
      refine Ends.step ⟨[some (.d (partsD ps ts)), some (.d (.str a)), some (.d (.str b)), some (.d (.dict (nearD ps ts))), some (.d (.list (R.map encL))), some (.d (.list (Fo.map encL))), some (.d (.list [])), y, z], S', by simp [lim, LIM], ?_⟩
      refine Ends.for encL R (fun r e S2 => S2 = S' ∧ ∃ (d : List (List Str)) (y z : Option W), d ++ r = R ∧ e = [some (.d (partsD ps ts)), some (.d (.str a)), some (.d (.str b)), some (.d (.dict (nearD ps ts))), some (.d (.list (R.map encL))), some (.d (.list (Fo.map encL))), some (.d (.list ((d.flatMap (kidsS ts)).map encL))), y, z]) (S1 := S') (by simp) ⟨rfl, [], _, _, rfl, rfl⟩ ?_ ?_
      · rintro w r e S2 ⟨rfl, d, y, z, hd, rfl⟩
        have hw : w ∈ R := by rw [← hd]; simp
        have hpw := (hR w hw).1
        have hwl : w.length < 1000 := by have := hpw.len; omega
        refine ⟨[some (.d (partsD ps ts)), some (.d (.str a)), some (.d (.str b)), some (.d (.dict (nearD ps ts))), some (.d (.list (R.map encL))), some (.d (.list (Fo.map encL))), some (.d (.list ((d.flatMap (kidsS ts)).map encL))), some (.d (encL w)), z], [some (.d (partsD ps ts)), some (.d (.str a)), some (.d (.str b)), some (.d (.dict (nearD ps ts))), some (.d (.list (R.map encL))), some (.d (.list (Fo.map encL))), some (.d (.list (((d ++ [w]).flatMap (kidsS ts)).map encL))), some (.d (encL w)), z], S2, by simp, ?_, rfl, d ++ [w], _, _, by simp [hd], rfl⟩
        have hlc : evE (callN FN none (n + 1)) (.lc (.bin .Add (.v 7) (.tup (.cons (.v 8) .nil))) (.mk (.nm 8) (.e (.sub (.v 3) (.sub (.v 7) (.neg (.k (.int 1)))))) (.so (.cmp .NotIn (.v 8) (.v 7)))) [8]) [some (.d (partsD ps ts)), some (.d (.str a)), some (.d (.str b)), some (.d (.dict (nearD ps ts))), some (.d (.list (R.map encL))), some (.d (.list (Fo.map encL))), some (.d (.list ((d.flatMap (kidsS ts)).map encL))), some (.d (encL w)), z] S2 = some (.d (.list ((kidsS ts w).map encL)), S2) := by
          rw [ev_lcP PyData.str (srt (nb ts (lst w))) (fun q => decide (q ∉ w)) (fun q => encL (w ++ [q])) (S1 := S2) (by
            simp [sub_lst hpw.last, sub_near (hpw.sub _ (List.mem_of_getLast? hpw.last))]) (by
            show (srtK id _).length ≤ LIM
            rw [srtK_len]
            unfold nb
            rw [List.length_map]
            exact Nat.le_trans (List.length_filter_le _ _) hl) fun q _ => ⟨[some (.d (partsD ps ts)), some (.d (.str a)), some (.d (.str b)), some (.d (.dict (nearD ps ts))), some (.d (.list (R.map encL))), some (.d (.list (Fo.map encL))), some (.d (.list ((d.flatMap (kidsS ts)).map encL))), some (.d (encL w)), some (.d (.str q))], by simp [wipe1], ?_, fun hq => ?_⟩]
          · unfold kidsS; rw [List.map_map]; rfl
          · have h : cmpD .NotIn (.str q) (encL w) = some (decide (q ∉ w)) := cmpD_ninT q w (by decide)
            simp [cmpW_d, h]
          · have hb : binD .Add (encL w) (.tuple [.str q]) = some (encL (w ++ [q])) := by
              show (if lim ((w.map PyData.str).length + 1) then some (PyData.tuple (w.map .str ++ [.str q])) else none) = _
              rw [if_pos (by unfold lim LIM; rw [List.length_map]; simp; omega)]
              unfold encL; rw [List.map_append]; rfl
            simp [lim, LIM, hb]
        have hadd : binD .Add (.list ((d.flatMap (kidsS ts)).map encL)) (.list ((kidsS ts w).map encL)) = some (.list (((d ++ [w]).flatMap (kidsS ts)).map encL)) := by
          show (if lim (((d.flatMap (kidsS ts)).map encL).length + ((kidsS ts w).map encL).length) then some (PyData.list ((d.flatMap (kidsS ts)).map encL ++ (kidsS ts w).map encL)) else none) = _
          have hle : (d.flatMap (kidsS ts)).length + (kidsS ts w).length ≤ (R.flatMap (kidsS ts)).length := by
            rw [← hd]; simp
          rw [if_pos (by unfold lim LIM; rw [List.length_map, List.length_map, decide_eq_true_eq]; omega)]
          simp
        rw [ex_cons, ex_asg, ev_bin]
        simp only [ev_v, slot_0, slot_s, Option.map_some, bd_some]
        rw [hlc]
        simp [hadd, ex_nil]
      · rintro e S2 ⟨rfl, d, y, z, hd, rfl⟩
        rw [List.append_nil] at hd
        subst hd
        have hlc : ∀ (o : CmpOp) (p : List Str → Bool) (e4 : Option W), (∀ w, cmpD o (.str (lst w)) (.str b) = some (p w)) → evE (callN FN none (n + 1)) (.lc (.v 7) (.mk (.nm 7) (.e (.v 6)) (.so (.cmp o (.sub (.v 7) (.neg (.k (.int 1)))) (.v 2)))) [7]) [some (.d (partsD ps ts)), some (.d (.str a)), some (.d (.str b)), some (.d (.dict (nearD ps ts))), e4, some (.d (.list (Fo.map encL))), some (.d (.list ((d.flatMap (kidsS ts)).map encL))), y, z] S2 = some (.d (.list (((d.flatMap (kidsS ts)).filter p).map encL)), S2) := fun o p e4 ho => by
          rw [ev_lcP encL (d.flatMap (kidsS ts)) p encL (S1 := S2) (by simp) (by have : LIM = 16000000 := rfl; omega) fun w hw => ⟨[some (.d (partsD ps ts)), some (.d (.str a)), some (.d (.str b)), some (.d (.dict (nearD ps ts))), e4, some (.d (.list (Fo.map encL))), some (.d (.list ((d.flatMap (kidsS ts)).map encL))), some (.d (encL w)), z], by simp [wipe1], ?_, fun _ => by simp⟩]
          simp [sub_lst (hkS w hw).1.last, cmpW_d, ho w]
        have h1 := hlc .NotEq (fun w => decide (lst w ≠ b)) (some (.d (.list (d.map encL)))) fun w => ne_str _ _
        have h2 := hlc .Eq (fun w => decide (lst w = b)) (some (.d (.list (((d.flatMap (kidsS ts)).filter fun w => decide (lst w ≠ b)).map encL)))) fun w => eq_str _ _
        refine Ends.step ⟨[some (.d (partsD ps ts)), some (.d (.str a)), some (.d (.str b)), some (.d (.dict (nearD ps ts))), some (.d (.list (((d.flatMap (kidsS ts)).filter fun w => decide (lst w ≠ b)).map encL))), some (.d (.list (Fo.map encL))), some (.d (.list ((d.flatMap (kidsS ts)).map encL))), y, z], S2, by rw [ex_asg, h1]; simp, ?_⟩
        have hfl : ((d.flatMap (kidsS ts)).filter fun w => decide (lst w = b)).length ≤ 100000 := Nat.le_trans (List.length_filter_le _ _) (by omega)
        have hs : biD .sorted [.list (((d.flatMap (kidsS ts)).filter fun w => decide (lst w = b)).map encL)] = some (.list ((srtK Tup.mk ((d.flatMap (kidsS ts)).filter fun w => decide (lst w = b))).map encL)) := by
          generalize hg : ((d.flatMap (kidsS ts)).filter fun w => decide (lst w = b)) = g at hfl
          have hne : ∀ w ∈ g, w ≠ [] := fun w hw => by
            rw [← hg] at hw
            exact (hkS w (List.mem_filter.mp hw).1).1.ne
          show (if sortOk (g.map encL) then some (PyData.list (sortD (g.map encL))) else none) = _
          have e1 : g.map encL = (g.map Tup.mk).map Datum.toD := by rw [List.map_map]; rfl
          rw [e1, if_pos, sortD_map]
          · congr 2
            unfold srt srtK
            rw [List.map_mergeSort (f := encL) (s := fun x y => !dataLt y x) fun u _ v _ => ?_, List.map_mergeSort (f := Datum.toD) (s := fun x y => !dataLt y x) fun u _ v _ => ?_, List.map_map]
            · rfl
            · unfold dle; rw [← DatumOrd.lt_eq]; rfl
            · unfold dle; rw [← DatumOrd.lt_eq]; rfl
          · refine sortOk_of (g.map Tup.mk) (by decide) (by rw [List.length_map]; exact Nat.le_trans hfl (by decide)) (.inl fun t ht => ?_)
            obtain ⟨w, hw, rfl⟩ := List.mem_map.mp ht
            have := hne w hw
            cases w with
            | nil => exact absurd rfl this
            | cons x r => rfl
        have hadd : binD .Add (.list (Fo.map encL)) (.list ((srtK Tup.mk ((d.flatMap (kidsS ts)).filter fun w => decide (lst w = b))).map encL)) = some (.list ((Fo ++ srtK Tup.mk ((d.flatMap (kidsS ts)).filter fun w => decide (lst w = b))).map encL)) := by
          show (if lim ((Fo.map encL).length + ((srtK Tup.mk ((d.flatMap (kidsS ts)).filter fun w => decide (lst w = b))).map encL).length) then some (PyData.list (Fo.map encL ++ (srtK Tup.mk ((d.flatMap (kidsS ts)).filter fun w => decide (lst w = b))).map encL)) else none) = _
          rw [if_pos (by unfold lim LIM; rw [List.length_map, List.length_map, srtK_len, decide_eq_true_eq]; omega), List.map_append]
        refine Ends.step ⟨[some (.d (partsD ps ts)), some (.d (.str a)), some (.d (.str b)), some (.d (.dict (nearD ps ts))), some (.d (.list (((d.flatMap (kidsS ts)).filter fun w => decide (lst w ≠ b)).map encL))), some (.d (.list ((Fo ++ srtK Tup.mk ((d.flatMap (kidsS ts)).filter fun w => decide (lst w = b))).map encL))), some (.d (.list ((d.flatMap (kidsS ts)).map encL))), y, z], S2, ?_, Ends.nil ⟨rfl, ⟨_, _, _, rfl⟩, rfl⟩⟩
        rw [ex_asg, ev_bin]
        simp only [ev_v, slot_0, slot_s, Option.map_some, bd_some, ev_bi, ev_cons]
        rw [h2]
        simp only [bd_some, ev_nil, biWW_1, hs, Option.map_some, rd_d, ob_some]
        rw [hadd]
        simp
    refine .inr ⟨S2, _, S2, m - 1, et, hb, by omega, (R.flatMap (kidsS ts)).filter fun w => decide (lst w ≠ b), Fo ++ srtK Tup.mk ((R.flatMap (kidsS ts)).filter fun w => decide (lst w = b)), ℓ + 1, _, _, _, rfl, rfl, ?_, ?_, ?_, ?_, ?_, by omega⟩
    · intro w hw
      rw [List.mem_filter, decide_eq_true_eq] at hw
      exact ⟨(hkS w hw.1).1, hw.2, (hkS w hw.1).2⟩
    · refine List.Perm.trans ?_ hP
      rw [List.append_assoc]
      refine List.Perm.append_left _ ?_
      have e1 : R.flatMap (wsF ts b ps.length) = (R.flatMap (kids ts)).flatMap (wsF ts b ps.length) := by
        rw [List.flatMap_assoc]
        exact flatMap_cg hwR
      rw [e1]
      refine List.Perm.trans ?_ (hnew.flatMap_right _)
      have e2 : ((R.flatMap (kidsS ts)).filter fun w => decide (lst w = b)).flatMap (wsF ts b ps.length) = (R.flatMap (kidsS ts)).filter fun w => decide (lst w = b) := by
        rw [flatMap_cg (g := fun w => [w]) fun w hw => ?_]
        · simp
        · rw [List.mem_filter, decide_eq_true_eq] at hw
          rw [wsF_eq ht (hkS w hw.1).1, if_pos hw.2]
      have h3 := ((perm_split (fun w => decide (lst w = b)) (R.flatMap (kidsS ts))).flatMap_right (wsF ts b ps.length)).symm
      rw [List.flatMap_append, e2] at h3
      refine List.Perm.trans ((srtK_perm _ _).append_right _) (List.Perm.trans ?_ h3)
      have e4 : (fun w => !decide (lst w = b)) = fun w : List Str => decide (lst w ≠ b) := by funext w; simp
      rw [e4]
    · rw [List.pairwise_append]
      refine ⟨hpw, ?_, fun u hu v hv => ?_⟩
      · refine List.Pairwise.imp_of_mem ?_ (srtK_pw Tup.mk ((R.flatMap (kidsS ts)).filter fun w => decide (lst w = b)))
        intro u v hu hv huv
        rw [srtK_mem, List.mem_filter] at hu hv
        have h1 := (hkS u hu.1).2
        have h2 := (hkS v hv.1).2
        unfold dle at huv ⊢
        unfold wayKey
        show (!(if ((v.length : Nat) : Int) = ((u.length : Nat) : Int) then DatumOrd.lt (Tup.mk v) (Tup.mk u) else _)) = true
        rw [if_pos (by omega)]
        exact huv
      · rw [srtK_mem, List.mem_filter] at hv
        have h1 := (hkS v hv.1).2
        have h2 := hFl u hu
        unfold dle wayKey
        show (!(if ((v.length : Nat) : Int) = ((u.length : Nat) : Int) then _ else decide (((v.length : Nat) : Int) < ((u.length : Nat) : Int)))) = true
        rw [if_neg (by omega), decide_eq_false (by omega)]
        rfl
    · intro w hw
      rcases List.mem_append.mp hw with hw | hw
      · have := hFl w hw; omega
      · rw [srtK_mem, List.mem_filter] at hw
        have := (hkS w hw.1).2; omega
    · have := sum_filter (szF ts b ps.length) (fun w => decide (lst w ≠ b)) (R.flatMap (kidsS ts))
      omega
end
end RW
set_option Elab.async false
set_option linter.all false
set_option maxRecDepth 100000
set_option maxHeartbeats 2000000
namespace RW
open PySem PySem.W
theorem plainAll_mem : ∀ {xs : List D} {x : D}, PyData.plainAll xs = true → x ∈ xs → x.plain = true
  | y :: xs, x, h, hx => by
    rw [PyData.plainAll, Bool.and_eq_true] at h
    rcases List.mem_cons.mp hx with rfl | hx
    · exact h.1
    · exact plainAll_mem h.2 hx
theorem depthAll_mem : ∀ {xs : List D} {x : D}, x ∈ xs → x.depth ≤ PyData.depthAll xs
  | y :: xs, x, hx => by
    rw [PyData.depthAll]
    rcases List.mem_cons.mp hx with rfl | hx
    · exact Nat.le_max_left _ _
    · exact Nat.le_trans (depthAll_mem hx) (Nat.le_max_right _ _)
mutual
theorem eqv_self : ∀ {x : D}, x.plain = true → PyData.eqv x x = true
  | .none, _ => rfl
  | .bool b, _ => by simp [PyData.eqv]
  | .int i, _ => by simp [PyData.eqv]
  | .str s, _ => by simp [PyData.eqv]
  | .list xs, h => by rw [PyData.eqv]; rw [PyData.plain] at h; exact eqvAll_self h
  | .tuple xs, h => by rw [PyData.eqv]; rw [PyData.plain] at h; exact eqvAll_self h
  | .dict kvs, h => by rw [PyData.plain] at h; cases h
theorem eqvAll_self : ∀ {xs : List D}, PyData.plainAll xs = true → PyData.eqvAll xs xs = true
  | [], _ => by rw [PyData.eqvAll]
  | x :: xs, h => by
    rw [PyData.plainAll, Bool.and_eq_true] at h
    rw [PyData.eqvAll, eqv_self h.1, eqvAll_self h.2]; rfl
end
theorem okD_eq {x : D} (h : okD x = true) : cmpD .Eq x x = some true := by
  show (if okD x && okD x then some (PyData.eqv x x) else none) = _
  rw [h]
  unfold okD at h
  rw [Bool.and_eq_true] at h
  rw [eqv_self h.1]; rfl
theorem rangeL_eq (n : Nat) : rangeL 0 (n : Int) = (List.range n).map fun (k : Nat) => PyData.int (k : Int) := by
  unfold rangeL
  simp
@[simp] theorem small62_n {n : Nat} (h : n ≤ 1000000) : small62 (n : Int) = true := by
  unfold small62
  rw [decide_eq_true_eq]
  omega
theorem isFn_of_plain {x : D} (h : x.plain = true) : isFn x = false := by
  cases x with
  | dict kvs => rw [PyData.plain] at h; cases h
  | _ => rfl
theorem lim5 : 100000 ≤ 1000000 := by omega
theorem lim6 : 100000 ≤ LIM := by unfold LIM; omega
/-- what _law_same takes for the same as itself -/
inductive Shd : Nat → D → Prop
  | tup {d : Nat} {xs : List D} : xs.length ≤ 100000 → (∀ x ∈ xs, Shd d x) → Shd (d + 1) (.tuple xs)
  | bool {d : Nat} {b : Bool} : Shd d (.bool b)
  | int {d : Nat} {b : Int} : Shd d (.int b)
  | str {d : Nat} {b : Str} : Shd d (.str b)
  | none {d : Nat} : Shd d .none
  | list {d : Nat} {xs : List D} : okD (.list xs) = true → Shd d (.list xs)
theorem Shd.up {d e : Nat} {x : D} (h : Shd d x) (hl : d ≤ e) : Shd e x := by
  induction h generalizing e with
  | tup h1 _ ih =>
    obtain ⟨e, rfl⟩ : ∃ k, e = k + 1 := ⟨e - 1, by omega⟩
    exact .tup h1 fun x hx => ih x hx (by omega)
  | bool => exact .bool
  | int => exact .int
  | str => exact .str
  | none => exact .none
  | list h => exact .list h
theorem shd_L {w : List Str} (h : w.length ≤ 100000) : Shd 1 (encL w) := .tup (by rw [List.length_map]; exact h) fun x hx => by
  obtain ⟨y, _, rfl⟩ := List.mem_map.mp hx
  exact .str
theorem shd_Ls {l : List (List Str)} (h : l.length ≤ 100000) (hw : ∀ w ∈ l, w.length ≤ 100000) : Shd 2 (.tuple (l.map encL)) := .tup (by rw [List.length_map]; exact h) fun x hx => by
  obtain ⟨y, hy, rfl⟩ := List.mem_map.mp hx
  exact shd_L (hw y hy)
theorem shd_2 {d : Nat} {x y : D} (h : Shd d x) (k : Shd d y) : Shd (d + 1) (.tuple [x, y]) := .tup (by simp) fun z hz => by
  simp at hz
  rcases hz with rfl | rfl
  · exact h
  · exact k
theorem len_ev {call : Call} {xs : List D} {S : Sto} {e1 e2 e3 : Option W} : evE call (.bi .len (.cons (.v 1) .nil)) [e1, some (.d (.tuple xs)), e2, e3] S = some (.d (.int xs.length), S) := by
  simp only [ev_bi, ev_cons, ev_nil, ev_v, slot_0, slot_s, Option.map_some, bd_some, biWW_1, bi_lenM, len_t]
theorem rng_ev {call : Call} {m : Nat} (h : m ≤ 1000000) {S S1 : Sto} {a : E} {e : Env1} (ha : evE call a e S = some (.d (.int (m : Int)), S1)) : evI call (.r1 a) e S = some ((List.range m).map fun k : Nat => PyData.int (k : Int), S1) := by
  rw [ev_r1, ha, bd_some, r1W_i, if_pos (small62_n h), rangeL_eq]
theorem same_tup {call : Call} {xs : List D} (hs : xs.length ≤ 100000) {S : Sto} (ih : ∀ x ∈ xs, ∀ S, call 3 [.d x, .d x] S = some (.d (.bool true), S)) :
    Ends call fd__law_same.body [some (.d (.tuple xs)), some (.d (.tuple xs)), none, none] S fun fl _ S' => fl = .rt (.d (.bool true)) ∧ S'.take S.length = S := by
    obtain ⟨L, e, hL⟩ : ∃ L, evE (call) (.lc (.call 3 (.cons (.sub (.v 0) (.v 3)) (.cons (.sub (.v 1) (.v 3)) .nil))) (.mk (.nm 3) (.r1 (.bi .len (.cons (.v 1) .nil))) .no) [3]) [some (.d (.tuple xs)), some (.d (.tuple xs)), none, none] S = some (.d (.list L), S) ∧ biD .all [.list L] = some (.bool true) := by
      refine ⟨_, ev_lcA (fun k : Nat => PyData.int (k : Int)) (List.range xs.length) (fun _ => .bool true) (S1 := S) ?_ ?_ fun k hk => ?_, ?_⟩
      · exact rng_ev (Nat.le_trans hs lim5) len_ev
      · rw [List.length_range]; exact Nat.le_trans hs lim6
      · rw [List.mem_range] at hk
        have hx : xs[k]? = some xs[k] := List.getElem?_eq_getElem hk
        have hc := ih xs[k] (List.getElem_mem hk) S
        refine ⟨[some (.d (.tuple xs)), some (.d (.tuple xs)), none, some (.d (.int k))], rfl, ?_⟩
        simp only [ev_call, slot_0, slot_s, Option.map_some, bd_some, subWW_d, sub_t hx, ev_cons, ev_sub, ev_v, ev_nil, noClo_d, noClo_nil, if_true]
        exact hc
      · rw [bAll_f (List.range xs.length) fun _ => true]
        simp
    refine Ends.ite (c := true) (S1 := S) (by simp) (fun _ => ⟨.rt (.d (.bool true)), [some (.d (.tuple xs)), some (.d (.tuple xs)), none, none], S, ?_, .inr ⟨⟨_, rfl⟩, rfl, List.take_length⟩⟩) (fun h => by cases h)
    have hne : evE call (.or (.nt (.bi (.isinst "tuple") (.cons (.v 0) .nil))) (.cmp .NotEq (.bi .len (.cons (.v 0) .nil)) (.bi .len (.cons (.v 1) .nil)))) [some (.d (.tuple xs)), some (.d (.tuple xs)), none, none] S = some (.d (.bool false), S) := by
      simp [cmpW_d]
    have h1 : exT call none (.ite (.or (.nt (.bi (.isinst "tuple") (.cons (.v 0) .nil))) (.cmp .NotEq (.bi .len (.cons (.v 0) .nil)) (.bi .len (.cons (.v 1) .nil)))) (.cons (.ret (.k (.bool false))) .nil) .nil) [some (.d (.tuple xs)), some (.d (.tuple xs)), none, none] S = some ((.nx, [some (.d (.tuple xs)), some (.d (.tuple xs)), none, none]), S) := by
      rw [ex_ite, hne, tb_b, bd_some, iteW_f, ex_nil]
    have h3 : evEs call (.cons (.lc (.call 3 (.cons (.sub (.v 0) (.v 3)) (.cons (.sub (.v 1) (.v 3)) .nil))) (.mk (.nm 3) (.r1 (.bi .len (.cons (.v 1) .nil))) .no) [3]) .nil) [some (.d (.tuple xs)), some (.d (.tuple xs)), none, none] S = some ([.d (.list L)], S) := by
      rw [ev_cons, e, bd_some, ev_nil, bd_some]
    have h2 : exT call none (.ret (.bi .all (.cons (.lc (.call 3 (.cons (.sub (.v 0) (.v 3)) (.cons (.sub (.v 1) (.v 3)) .nil))) (.mk (.nm 3) (.r1 (.bi .len (.cons (.v 1) .nil))) .no) [3]) .nil))) [some (.d (.tuple xs)), some (.d (.tuple xs)), none, none] S = some ((.rt (.d (.bool true)), [some (.d (.tuple xs)), some (.d (.tuple xs)), none, none]), S) := by
      rw [ex_ret, ev_bi, h3, bd_some, biWW_1, hL, Option.map_some, bd_some]
    rw [ex_cons, h1, bd_some, seqE_nx, ex_cons, h2, bd_some, seqE_rt]
section
variable {FN : Nat → Option FnD} (B : FB FN) {S : Sto} {n : Nat}
include B
theorem same_ok {d : Nat} {x : D} (h : Shd d x) : ∀ S, callN FN none (n + d + 1) 3 [.d x, .d x] S = some (.d (.bool true), S) := by
  induction h with
  | @tup d xs hs hx ih =>
    intro S
    rw [show n + (d + 1) + 1 = (n + d + 1) + 1 by omega]
    refine call_rt' B.f3 rfl rfl rfl [some (.d (.tuple xs)), some (.d (.tuple xs)), none, none] rfl ?_
    exact same_tup hs ih
  | @bool d b =>
    intro S
    refine call_rt' B.f3 rfl rfl rfl [some (.d (.bool b)), some (.d (.bool b)), none, none] rfl ?_
    refine Ends.step ⟨_, S, by simp [isD, isFn, PyData.isTuple, ex_nil]; rfl, ?_⟩
    refine Ends.ite (c := true) (S1 := S) (by simp [isD, isFn, PyData.isBool]) (fun _ => ⟨.rt (.d (.bool true)), [some (.d (.bool b)), some (.d (.bool b)), none, none], S, ?_, .inr ⟨⟨_, rfl⟩, rfl, List.take_length⟩⟩) (fun h => by cases h)
    rw [ex_cons]
    simp [cmpW_d, isD, isFn, PyData.isBool]
  | @int d b =>
    intro S
    refine call_rt' B.f3 rfl rfl rfl [some (.d (.int b)), some (.d (.int b)), none, none] rfl ?_
    refine Ends.step ⟨_, S, by simp [isD, isFn, PyData.isTuple, ex_nil]; rfl, ?_⟩
    refine Ends.step ⟨_, S, by simp [isD, isFn, PyData.isBool, ex_nil]; rfl, ?_⟩
    refine Ends.ite (c := true) (S1 := S) (by simp [isD, isFn, PyData.isInt]) (fun _ => ⟨.rt (.d (.bool true)), [some (.d (.int b)), some (.d (.int b)), none, none], S, ?_, .inr ⟨⟨_, rfl⟩, rfl, List.take_length⟩⟩) (fun h => by cases h)
    rw [ex_cons]
    simp [cmpW_d, isD, isFn, PyData.isBool, PyData.isInt]
  | @str d b =>
    intro S
    refine call_rt' B.f3 rfl rfl rfl [some (.d (.str b)), some (.d (.str b)), none, none] rfl ?_
    refine Ends.step ⟨_, S, by simp [isD, isFn, PyData.isTuple, ex_nil]; rfl, ?_⟩
    refine Ends.step ⟨_, S, by simp [isD, isFn, PyData.isBool, ex_nil]; rfl, ?_⟩
    refine Ends.step ⟨_, S, by simp [isD, isFn, PyData.isInt, ex_nil]; rfl, ?_⟩
    refine Ends.ite (c := true) (S1 := S) (by simp [isD, isFn, PyData.isStr]) (fun _ => ⟨.rt (.d (.bool true)), [some (.d (.str b)), some (.d (.str b)), none, none], S, ?_, .inr ⟨⟨_, rfl⟩, rfl, List.take_length⟩⟩) (fun h => by cases h)
    rw [ex_cons]
    simp [cmpW_d, isD, isFn, PyData.isStr]
  | @none d =>
    intro S
    refine call_rt' B.f3 rfl rfl rfl [some (.d .none), some (.d .none), none, none] rfl ?_
    refine Ends.step ⟨_, S, by simp [isD, isFn, PyData.isTuple, ex_nil]; rfl, ?_⟩
    refine Ends.step ⟨_, S, by simp [isD, isFn, PyData.isBool, ex_nil]; rfl, ?_⟩
    refine Ends.step ⟨_, S, by simp [isD, isFn, PyData.isInt, ex_nil]; rfl, ?_⟩
    refine Ends.step ⟨_, S, by simp [isD, isFn, PyData.isStr, ex_nil]; rfl, ?_⟩
    have e : cmpD .Is .none .none = some true := rfl
    refine Ends.ite (c := true) (S1 := S) (by simp [cmpW_d, e]) (fun _ => ⟨.rt (.d (.bool true)), [some (.d .none), some (.d .none), none, none], S, ?_, .inr ⟨⟨_, rfl⟩, rfl, List.take_length⟩⟩) (fun h => by cases h)
    rw [ex_cons]
    simp [cmpW_d, e]
  | @list d xs ek =>
    intro S
    refine call_rt' B.f3 rfl rfl rfl [some (.d (.list xs)), some (.d (.list xs)), none, none] rfl ?_
    have e0 := okD_eq ek
    refine Ends.step ⟨_, S, by simp [isD, isFn, PyData.isTuple, ex_nil]; rfl, ?_⟩
    refine Ends.step ⟨_, S, by simp [isD, isFn, PyData.isBool, ex_nil]; rfl, ?_⟩
    refine Ends.step ⟨_, S, by simp [isD, isFn, PyData.isInt, ex_nil]; rfl, ?_⟩
    refine Ends.step ⟨_, S, by simp [isD, isFn, PyData.isStr, ex_nil]; rfl, ?_⟩
    have e : cmpD .Is (.list xs) .none = some false := rfl
    have e1 : cmpD .Is (.bool true) (.bool true) = some true := rfl
    refine Ends.step ⟨_, S, by simp [cmpW_d, e, ex_nil]; rfl, ?_⟩
    refine Ends.step ⟨[some (.d (.list xs)), some (.d (.list xs)), some (.d (.bool true)), none], S, by simp [isD, isFn, PyData.isList, PyData.isDict, cmpW_d], ?_⟩
    refine Ends.retX ?_
    simp [isD, isFn, PyData.isTuple, cmpW_d, e0, e1]
end
end RW
set_option Elab.async false
set_option linter.all false
set_option maxRecDepth 100000
set_option maxHeartbeats 2000000
namespace RW
open PySem PySem.W
/-! ## the well -/
def wl (a b c : Int) : MO := .lst [.int a, .int b, .int c]
def Well (S : Sto) (i : Nat) : Prop := ∃ a b c, S[i]? = some (wl a b c) ∧ 0 ≤ b ∧ b < 2147483587
def Adv (S S' : Sto) (i : Nat) : Prop := ∃ a b c, S' = S.set i (wl a b c) ∧ 0 ≤ b ∧ b < 2147483587
section
variable {S S' S'' r : Sto} {i : Nat}
theorem Well.lt (h : Well S i) : i < S.length := by
  obtain ⟨a, b, c, e, _⟩ := h
  exact (List.getElem?_eq_some_iff.mp e).1
theorem Adv.well (h : Adv S S' i) (hi : i < S.length) : Well S' i := by
  obtain ⟨a, b, c, rfl, h1, h2⟩ := h
  exact ⟨a, b, c, by rw [List.getElem?_set_self hi], h1, h2⟩
theorem Adv.len (h : Adv S S' i) : S'.length = S.length := by
  obtain ⟨a, b, c, rfl, _⟩ := h
  rw [List.length_set]
theorem Adv.trans (h : Adv S S' i) (k : Adv S' S'' i) : Adv S S'' i := by
  obtain ⟨a, b, c, rfl, _⟩ := h
  obtain ⟨a', b', c', rfl, h1, h2⟩ := k
  exact ⟨a', b', c', by rw [List.set_set], h1, h2⟩
theorem Adv.refl (h : Well S i) : Adv S S i := by
  obtain ⟨a, b, c, e, h1, h2⟩ := h
  refine ⟨a, b, c, ?_, h1, h2⟩
  obtain ⟨hl, e⟩ := List.getElem?_eq_some_iff.mp e
  rw [← e, List.set_getElem_self]
theorem Well.app (h : Well S i) : Well (S ++ r) i := by
  obtain ⟨a, b, c, e, h1⟩ := h
  exact ⟨a, b, c, by rw [List.getElem?_append_left (List.getElem?_eq_some_iff.mp e).1]; exact e, h1⟩
theorem Adv.app (hi : i < S.length) (h : Adv (S ++ r) S'' i) : ∃ S', S'' = S' ++ r ∧ Adv S S' i := by
  obtain ⟨a, b, c, rfl, h1⟩ := h
  exact ⟨S.set i (wl a b c), by rw [List.set_append_left _ _ hi], a, b, c, rfl, h1⟩
end
theorem sub_l2 {x y z : D} {r : List D} : subD (.list (x :: y :: z :: r)) (.int 2) = some z := sub_l (j := 2) rfl
theorem subWW_lst {S : Sto} {i : Nat} {xs : List D} {y : D} (h : S[i]? = some (.lst xs)) : subVV (.ref i) (.d y) S = (subD (.list xs) y).map fun z => (.d z, S) := by
  unfold subVV
  show (subW S (.ref i) (.d y)).map _ = _
  unfold subW
  rw [if_neg (by simp [isDct, h]), rd_lst h]
  rfl
theorem setIS_lst {S : Sto} {i j : Nat} {xs : List D} {x : D} (h : S[i]? = some (.lst xs)) (hj : j < xs.length) : setIS S i (.int j) x = some (S.set i (.lst (xs.set j x))) := by
  unfold setIS
  rw [h]
  show (if decide (0 ≤ (j : Int) ∧ (j : Int) < xs.length) = true then some (S.set i (.lst (xs.set (j : Int).toNat x))) else none) = _
  rw [if_pos (by rw [decide_eq_true_eq]; omega), Int.toNat_natCast]
def setITW (e : Env1) (j : Nat) (mr mk : Sto → Option (W × Sto)) (x : W) (S : Sto) : Option ((Fl × Env1) × Sto) := match x with
    | .d (.tuple [x, y]) => bd (mr S) fun r S => bd (mk S) fun k S => match r with
      | .ref n => ob (pd k) fun k => ob (setIS S n k x) fun S => ob (asg1 e j (.d y)) fun e => some ((.nx, e), S)
      | _ => none
    | _ => none
@[simp] theorem ex_setIT {call : Call} {fu : Option Nat} {e : Env1} {S : Sto} {a i b : E} {j : Nat} : exT call fu (.setIT a i j b) e S = bd (evE call b e S) (setITW e j (fun S => evE call a e S) fun S => evE call i e S) := by simp only [exT]; rfl
theorem mulI {i j : Int} (h : (bigOk i || bigOk j) = true) : binD .Mult (.int i) (.int j) = some (.int (i * j)) := by
  show (if bigOk i || bigOk j then some (PyData.int (i * j)) else none) = _
  rw [if_pos h]
theorem bigOk_of {i : Int} (h : 0 ≤ i) (k : i < 18446744073709551616) : bigOk i = true := by
  unfold bigOk
  rw [decide_eq_true_eq]
  omega
theorem modI {i j : Int} (h : 0 < j) : binD .Mod (.int i) (.int j) = some (.int (i % j)) := by
  show (if decide (0 < j) then some (PyData.int (i % j)) else none) = _
  rw [if_pos (by simpa using h)]
theorem divI {i j : Int} (h : 0 < j) (k : j < 1073741824) : binD .FloorDiv (.int i) (.int j) = some (.int (i / j)) := by
  show (if decide (0 < j ∧ j < 1073741824) then some (PyData.int (i / j)) else none) = _
  rw [if_pos (by rw [decide_eq_true_eq]; exact ⟨h, k⟩)]
@[simp] theorem addI {i j : Int} : binD .Add (.int i) (.int j) = some (.int (i + j)) := rfl
@[simp] theorem subI {i j : Int} : binD .Sub (.int i) (.int j) = some (.int (i - j)) := rfl
@[simp] theorem bi_int {i : Int} : biD .int [.int i] = some (.int i) := rfl
theorem call_endsE {FN : Nat → Option FnD} {n f : Nat} {fd : FnD} {ws : List W} {S : Sto} {P : Fl → Env1 → Sto → Prop} (hf : FN f = some fd) (hn : fd.nat = none) (hl : ws.length = fd.np) {e0 : Env1} (he : ws.map some ++ List.replicate (fd.N.length - fd.np) none = e0 := by rfl)
    (h : Ends (callN FN none n) fd.body e0 S P) (Q : W → Sto → Prop) (hQ : ∀ fl e' S', P fl e' S' → ∃ x, (fl = .nx ∧ x = W.d .none ∨ fl = .rt x) ∧ ∃ y S2, handBack fd S.length x S' = some (y, S2) ∧ Q y S2) : ∃ y S2, callN FN none (n + 1) f ws S = some (y, S2) ∧ Q y S2 := by
  subst he
  obtain ⟨fl, e', S', h1, h2⟩ := h
  obtain ⟨x, h3, y, S2, h4, h5⟩ := hQ fl e' S' h2
  refine ⟨y, S2, ?_, h5⟩
  rw [callN_run hf hn, runF_eq hl, h1]
  rcases h3 with ⟨rfl, rfl⟩ | rfl
  · exact h4
  · exact h4
/-- a call that moves the well alone -/
theorem call_adv {FN : Nat → Option FnD} {n f : Nat} {fd : FnD} {ws : List W} {S S1 : Sto} {x : D} (hf : FN f = some fd) (hn : fd.nat = none) (hk : fd.keep = false) (hl : ws.length = fd.np) (e0 : Env1) (he : ws.map some ++ List.replicate (fd.N.length - fd.np) none = e0) (hS : S1.length = S.length)
    (h : Ends (callN FN none n) fd.body e0 S fun fl _ S' => fl = .rt (.d x) ∧ ∃ r, S' = S1 ++ r) : callN FN none (n + 1) f ws S = some (.d x, S1) := by
  obtain ⟨y, S2, h1, rfl, rfl⟩ := call_ends hf hn hk hl (he ▸ h) (fun y S2 => y = .d x ∧ S2 = S1) fun fl _ S' ⟨h1, r, h2⟩ => ⟨.d x, .inr h1, .d x, S1, by rw [handBack_d hk, h2, ← hS]; simp, rfl, rfl⟩
  exact h1
section
variable {FN : Nat → Option FnD} (B : FB FN) {S : Sto} {n i : Nat}
include B
theorem draw_ok {L : Int} (hw : Well S i) (h1 : 0 < L) (h2 : L < 1073741824) : ∃ r S', callN FN none (n + 1) 2 [.ref i, .d (.int L)] S = some (.d (.int r), S') ∧ 0 ≤ r ∧ r < L ∧ Adv S S' i := by
  obtain ⟨a, b, c, e, hb1, hb2⟩ := hw
  have hi := (List.getElem?_eq_some_iff.mp e).1
  have e' : S[i]? = some (.lst [.int a, .int b, .int c]) := e
  have k0 := fun y => subWW_lst (y := y) e'
  have tk : ∀ X, (S.set i X).take S.length = S.set i X := fun X => by rw [List.take_of_length_le (by simp)]
  by_cases ha : a > 0
  · refine ⟨a % L, S.set i (wl (a / L) b c), ?_, Int.emod_nonneg _ (by omega), Int.emod_lt_of_pos _ h1, a / L, b, c, rfl, hb1, hb2⟩
    have hd : biD .divmod [.int a, .int L] = some (.tuple [.int (a / L), .int (a % L)]) := by
      show (if decide (0 < L ∧ L < 1073741824) then some (PyData.tuple [.int (a / L), .int (a % L)]) else none) = _
      rw [if_pos (by rw [decide_eq_true_eq]; exact ⟨h1, h2⟩)]
    have hs := setIS_lst (j := 0) (x := .int (a / L)) e' (by simp)
    have hs : setIS S i (.int 0) (.int (a / L)) = some (S.set i (wl (a / L) b c)) := hs
    refine call_adv B.f2 rfl rfl rfl [some (.ref i), some (.d (.int L)), none, none] rfl (by simp) ?_
    refine Ends.ite (c := true) (S1 := S) (by simp [k0, cmpW_d, ha]) (fun _ => ⟨.rt (.d (.int (a % L))), [some (.ref i), some (.d (.int L)), none, some (.d (.int (a % L)))], S.set i (wl (a / L) b c), ?_, .inr ⟨⟨_, rfl⟩, rfl, [], by simp⟩⟩) (fun h => by cases h)
    rw [ex_cons]
    simp [k0, hd, setITW, hs, ex_cons]
  · have hM : (0 : Int) < 2147483587 := by omega
    let m : Int := (b * 40009 + 15013 * (c + 1) + 3) % 2147483587
    let b' : Int := (m * (m % 5003 + 20011) + (c + 1)) % 2147483587
    have hm0 : 0 ≤ m := Int.emod_nonneg _ (by omega)
    have hm1 : m < 2147483587 := Int.emod_lt_of_pos _ hM
    refine ⟨b' / 1031 % L, S.set i (wl a b' (c + 1)), ?_, Int.emod_nonneg _ (by omega), Int.emod_lt_of_pos _ h1, a, b', c + 1, rfl, Int.emod_nonneg _ (by omega), Int.emod_lt_of_pos _ hM⟩
    have g1 : (S.set i (wl a b (c + 1)))[i]? = some (.lst [.int a, .int b, .int (c + 1)]) := List.getElem?_set_self hi
    have g2 : (S.set i (wl a b' (c + 1)))[i]? = some (.lst [.int a, .int b', .int (c + 1)]) := List.getElem?_set_self hi
    have q0 := fun y => subWW_lst (y := y) g1
    have r0 := fun y => subWW_lst (y := y) g2
    have hs1 : setIS S i (.int 2) (.int (c + 1)) = some (S.set i (wl a b (c + 1))) := setIS_lst (j := 2) (x := .int (c + 1)) e' (by simp)
    have hs2 : setIS (S.set i (wl a b (c + 1))) i (.int 1) (.int b') = some (S.set i (wl a b' (c + 1))) := by
      have := setIS_lst (j := 1) (x := .int b') g1 (by simp)
      rw [List.set_set] at this
      exact this
    have u1 : binD .Mult (.int b) (.int 40009) = some (.int (b * 40009)) := mulI (by rw [bigOk_of (i := 40009) (by omega) (by omega)]; simp)
    have u2 : binD .Mult (.int 15013) (.int (c + 1)) = some (.int (15013 * (c + 1))) := mulI (by rw [bigOk_of (i := 15013) (by omega) (by omega)]; simp)
    have u3 : binD .Mult (.int m) (.int (m % 5003 + 20011)) = some (.int (m * (m % 5003 + 20011))) := mulI (by rw [bigOk_of (i := m) hm0 (by omega)]; simp)
    have v1 : ∀ x, binD .Mod (.int x) (.int 2147483587) = some (.int (x % 2147483587)) := fun x => modI hM
    have v2 : ∀ x, binD .Mod (.int x) (.int 5003) = some (.int (x % 5003)) := fun x => modI (by omega)
    have v3 : ∀ x, binD .Mod (.int x) (.int L) = some (.int (x % L)) := fun x => modI h1
    have v4 : ∀ x, binD .FloorDiv (.int x) (.int 1031) = some (.int (x / 1031)) := fun x => divI (by omega) (by omega)
    refine call_adv B.f2 rfl rfl rfl [some (.ref i), some (.d (.int L)), none, none] rfl (by simp) ?_
    · skip
      refine Ends.step ⟨[some (.ref i), some (.d (.int L)), none, none], S, by simp [k0, cmpW_d, ha, ex_nil], ?_⟩
      refine Ends.step ⟨[some (.ref i), some (.d (.int L)), none, none], S.set i (wl a b (c + 1)), by simp [k0, sub_l2, hs1], ?_⟩
      refine Ends.step ⟨[some (.ref i), some (.d (.int L)), some (.d (.int m)), none], S.set i (wl a b (c + 1)), ?_, ?_⟩
      · simp only [ex_asg, ev_bin, ev_bi, ev_cons, ev_nil, ev_sub, ev_v, ev_k, slot_0, slot_s, Option.map_some, bd_some, q0, sub_l1, sub_l2, rd_d, ob_some, u1, u2, addI, biWW_1, bi_int, v1, asgT_nm, asg1_s, asg1_0]
        rfl
      refine Ends.step ⟨[some (.ref i), some (.d (.int L)), some (.d (.int m)), none], S.set i (wl a b' (c + 1)), ?_, ?_⟩
      · simp only [ex_setI, ev_bin, ev_bi, ev_cons, ev_nil, ev_sub, ev_v, ev_k, slot_0, slot_s, Option.map_some, bd_some, q0, sub_l1, sub_l2, rd_d, ob_some, u3, addI, biWW_1, bi_int, v1, v2, setIW_r, pd_d]
        rw [show (m * (m % 5003 + 20011) + (c + 1)) % 2147483587 = b' from rfl, hs2]
        simp only [ob_some]
      refine Ends.retP (w := .d (.int (b' / 1031 % L))) (S1 := S.set i (wl a b' (c + 1))) ?_ ⟨rfl, [], by simp⟩
      simp only [ev_bin, ev_bi, ev_cons, ev_nil, ev_sub, ev_v, ev_k, slot_0, slot_s, Option.map_some, bd_some, r0, sub_l1, rd_d, ob_some, v4, biWW_1, bi_int, v3]
theorem of_ok {x : D} {N : Nat} {P : D → Prop} (hw : Well S i) (hl : lenD x = some N) (h1 : 0 < N) (h2 : N < 1073741824) (hp : ∀ k, k < N → ∃ y, subD x (.int (k : Int)) = some y ∧ P y) : ∃ y S', callN FN none (n + 2) 23 [.ref i, .d x] S = some (.d y, S') ∧ P y ∧ Adv S S' i := by
  obtain ⟨r, S', e, hr0, hr1, ad⟩ := draw_ok B (n := n) (L := (N : Int)) hw (by omega) (by omega)
  obtain ⟨k, rfl⟩ : ∃ k : Nat, r = k := ⟨r.toNat, by omega⟩
  obtain ⟨y, hy, py⟩ := hp k (by omega)
  have hlen := ad.len
  refine ⟨y, S', ?_, py, ad⟩
  refine call_adv B.f23 rfl rfl rfl [some (.ref i), some (.d x)] rfl hlen ?_
  refine Ends.retP (w := .d y) (S1 := S') ?_ ⟨rfl, [], by simp⟩
  simp [hl, e, hy]
end
end RW
set_option Elab.async false
set_option linter.all false
set_option maxRecDepth 100000
set_option maxHeartbeats 2000000
namespace RW
open PySem PySem.W
/-! ## names -/
def mkS (l : List Nat) : Str := ⟨l.toArray⟩
theorem mkS_app (l m : List Nat) : mkS l ++ mkS m = mkS (l ++ m) := by
  show Str.append _ _ = _
  simp [Str.append, mkS]
theorem mkS_len (l : List Nat) : (mkS l).length = l.length := by simp [Str.length, mkS]
theorem strAdd {l m : List Nat} (h : l.length + m.length ≤ 1000) : binD .Add (.str (mkS l)) (.str (mkS m)) = some (.str (mkS (l ++ m))) := by
  show (if lim ((mkS l).length + (mkS m).length) then some (PyData.str (mkS l ++ mkS m)) else none) = _
  rw [if_pos (by rw [mkS_len, mkS_len, lim, decide_eq_true_eq]; unfold LIM; omega), mkS_app]
theorem slcS_take {l : List Nat} {k : Nat} (hk : k ≤ l.length) (h : l.length ≤ 1000) : slcD (.str (mkS l)) none (some (.int (k : Int))) = some (.str (mkS (l.take k))) := by
  have hl := mkS_len l
  show ob (some 0) (fun i' => ob (some (if (k : Int) < 0 then ((k : Int) + (mkS l).length).toNat else min (k : Int).toNat (mkS l).length)) fun j => if lim (mkS l).length then some (PyData.str ⟨(cutL (mkS l).cps.toList i' j).toArray⟩) else none) = _
  rw [if_neg (by omega), ob_some, ob_some, if_pos (by rw [hl, lim, decide_eq_true_eq]; unfold LIM; omega), hl, Int.toNat_natCast, Nat.min_eq_left hk]
  simp [cutL, mkS]
theorem slcS_drop {l : List Nat} {k : Nat} (hk : k ≤ l.length) (h : l.length ≤ 1000) : slcD (.str (mkS l)) (some (.int (k : Int))) none = some (.str (mkS (l.drop k))) := by
  have hl := mkS_len l
  show ob (some (if (k : Int) < 0 then ((k : Int) + (mkS l).length).toNat else min (k : Int).toNat (mkS l).length)) (fun i' => ob (some (mkS l).length) fun j => if lim (mkS l).length then some (PyData.str ⟨(cutL (mkS l).cps.toList i' j).toArray⟩) else none) = _
  rw [if_neg (by omega), ob_some, ob_some, if_pos (by rw [hl, lim, decide_eq_true_eq]; unfold LIM; omega), hl, Int.toNat_natCast, Nat.min_eq_left hk]
  have e : (mkS l).cps.toList = l := by simp [mkS]
  rw [e, cutL, List.take_of_length_le (by rw [List.length_drop]; omega)]
  rfl
/-- the letters -/
def ch (t : Nat) : Nat := LET.cps.toList.getD t 0
theorem LET_len : LET.cps.toList.length = 26 := by decide +kernel
theorem sub_LET {t : Nat} (h : t < 26) : subD (.str LET) (.int (t : Int)) = some (.str (mkS [ch t])) := by
  have hl : LET.length = 26 := by decide +kernel
  show (if lim LET.length then (ob (ixD LET.length (t : Int)) fun j => (LET.cps[j]?).map fun c => PyData.str ⟨#[c]⟩) else none) = _
  rw [hl, if_pos (by decide), ixD_nat h, ob_some]
  have h2 : t < LET.cps.size := by show t < LET.length; omega
  rw [Array.getElem?_eq_getElem h2]
  show some (PyData.str ⟨#[LET.cps[t]]⟩) = _
  have : LET.cps[t] = ch t := by
    unfold ch
    rw [List.getD_eq_getElem?_getD, List.getElem?_eq_getElem (by simpa using h2)]
    simp
  rw [this]
  rfl
theorem ch_let : ∀ t < 26, isLet (ch t) = true := by decide +kernel
theorem ch_inj : ∀ t < 26, ∀ u < 26, ch t = ch u → t = u := by decide +kernel
def rep8 (t : Nat) : Str := mkS (List.replicate 8 (ch t))
theorem rep8_ok : ∀ t < 26, okName (rep8 t) = true := by decide +kernel
theorem mul8 (t : Nat) : binD .Mult (.str (mkS [ch t])) (.int 8) = some (.str (rep8 t)) := by
  show (if decide ((2 : Int) ≤ 8 ∧ (8 : Int) ≤ 1000 ∧ (mkS [ch t]).length ≤ 1000 ∧ (mkS [ch t]).length ≠ 0) = true then some (PyData.str (strMul (mkS [ch t]) (8 : Int).toNat)) else none) = _
  rw [if_pos (by rw [mkS_len]; simp)]
  rfl
theorem split_words : Txt.split (Str.ofString "all back book bright case chance colour cut draw first game in none of once open out paint place proper" ++ Str.ofString " quit rule short single take tie two undo way web win yes") (Str.ofString " ") = WORDS := by decide +kernel
theorem okName_iff {l : List Nat} : okName (mkS l) = true ↔ l ≠ [] ∧ (∀ c ∈ l, isLet c = true) ∧ l.length ≤ 8 ∧ mkS l ∉ WORDS := by
  have e : (mkS l ≠ Str.ofString "") ↔ l ≠ [] := by
    rw [show Str.ofString "" = mkS [] from by decide +kernel]
    constructor
    · intro h k; exact h (by rw [k])
    · intro h k
      have := congrArg (fun s : Str => s.cps.toList) k
      simp [mkS] at this
      exact h this
  unfold okName
  simp only [Bool.and_eq_true, decide_eq_true_eq, Bool.not_eq_true', decide_eq_false_iff_not, mkS_len]
  have e2 : (mkS l).cps.toList = l := by simp [mkS]
  rw [e, e2, List.all_eq_true]
  constructor
  · rintro ⟨⟨a, b⟩, c, d⟩; exact ⟨a, b, c, d⟩
  · rintro ⟨a, b, c, d⟩; exact ⟨⟨a, b⟩, c, d⟩
end RW
set_option Elab.async false
set_option linter.all false
set_option maxRecDepth 100000
set_option maxHeartbeats 4000000
namespace RW
open PySem PySem.W
theorem range_cons (m : Nat) : ∀ k, k ≤ m → ∃ r, r = List.drop k (List.range m) ∧ ∀ j t, r = j :: t → j = k ∧ t = List.drop (k + 1) (List.range m) := fun k hk => by
  refine ⟨_, rfl, fun j t e => ?_⟩
  have h1 : (List.drop k (List.range m))[0]? = some j := by rw [e]; rfl
  rw [List.getElem?_drop] at h1
  have hj : k + 0 < m := by
    have := (List.getElem?_eq_some_iff.mp h1).1
    simpa using this
  rw [List.getElem?_range hj] at h1
  refine ⟨by simpa using h1.symm, ?_⟩
  have := congrArg List.tail e
  simpa using this.symm
section
variable {FN : Nat → Option FnD} (B : FB FN) {S : Sto} {n i : Nat}
include B
omit B in
theorem addG (a b : Str) (h : lim (a.length + b.length) = true) : binD .Add (.str a) (.str b) = some (.str (a ++ b)) := by
  show (if lim (a.length + b.length) then some (PyData.str (a ++ b)) else none) = _
  rw [if_pos h]
omit B in
theorem splitG (a b : Str) (h : (decide (0 < b.length) && lim (a.length + 2)) = true) : meD .split (.str a) [.str b] = some (.list ((Txt.split a b).map .str)) := by
  show (if decide (0 < b.length) && lim (a.length + 2) then some (PyData.list (strSplit a b)) else none) = _
  rw [if_pos h]; rfl
omit B in
theorem meW_split (a b : Str) (S : Sto) : meW .split S (.d (.str a)) [.d (.str b)] = (meD .split (.str a) [.str b]).map fun z => (.d z, S) := by
  unfold meW
  simp
def words1 : Str := Str.ofString "all back book bright case chance colour cut draw first game in none of once open out paint place proper"
def words2 : Str := Str.ofString " quit rule short single take tie two undo way web win yes"
theorem words_ok : callN FN none (n + 1) 25 [] S = some (.d (.list (WORDS.map .str)), S) := by
  refine call_rt' B.f25 rfl rfl rfl [none] rfl ?_
  have h1 := addG words1 words2 (by decide +kernel)
  have h2 := splitG (words1 ++ words2) (Str.ofString " ") (by decide +kernel)
  rw [show Txt.split (words1 ++ words2) (Str.ofString " ") = WORDS from split_words] at h2
  have h3 := meW_split (words1 ++ words2) (Str.ofString " ") S
  rw [h2] at h3
  have h4 : ∀ x, meTy .split S (.d (.str x)) = true := fun x => rfl
  refine Ends.step ⟨[some (.d (.str words1))], S, by rw [ex_asg, ev_k, bd_some]; rfl, ?_⟩
  refine Ends.step ⟨[some (.d (.str (words1 ++ words2)))], S, ?_, ?_⟩
  · rw [ex_asg, ev_bin, ev_v, slot_0, Option.map_some, bd_some, ev_k, bd_some, rd_d, ob_some, rd_d, ob_some]
    rw [show strD " quit rule short single take tie two undo way web win yes" = .str words2 from rfl, h1]
    rfl
  refine Ends.retX ?_
  rw [ev_me, ev_v, slot_0, Option.map_some, bd_some, if_pos (h4 _), ev_cons, ev_k, bd_some, ev_nil, bd_some, bd_some]
  exact h3
end
def nmE (i m q : Nat) (t nm sz lp at_ : Option W) : Env1 := [some (.ref i), some (.d (.int (m : Int))), some (.d (.str LET)), some (.ref q), t, nm, sz, lp, at_]
/-- the names found so far -/
structure NmI (t : Nat) (F : List Str) : Prop where
  len : F.length = t
  ok : ∀ f ∈ F, okName f = true
  nd : F.Nodup
  has : ∀ f ∈ F, ∃ j, j < t ∧ ch j ∈ f.cps.toList
theorem NmI.next {t : Nat} {F : List Str} (ht : t < 26) (h : NmI t F) {l : List Nat} (hl : l.length ≤ 8) (hc : ∀ c ∈ l, isLet c = true) (hm : ch t ∈ l) : NmI (t + 1) (F ++ [if decide (mkS l ∈ F) || decide (mkS l ∈ WORDS) then rep8 t else mkS l]) := by
  have rep_no : rep8 t ∉ F := fun z => by
    obtain ⟨j, hj, hjm⟩ := h.has _ z
    unfold rep8 mkS at hjm
    simp at hjm
    have := ch_inj j (by omega) t ht hjm
    omega
  have key : ∀ x : Str, okName x = true → x ∉ F → ch t ∈ x.cps.toList → NmI (t + 1) (F ++ [x]) := fun x h1 h2 h3 => by
    refine ⟨by simp [h.len], fun f hf => ?_, ?_, fun f hf => ?_⟩
    · rcases List.mem_append.mp hf with hf | hf
      · exact h.ok f hf
      · simp at hf; subst hf; exact h1
    · rw [List.nodup_append]
      exact ⟨h.nd, by simp, fun a ha b hb e => by simp at hb; subst hb; exact h2 (e ▸ ha)⟩
    · rcases List.mem_append.mp hf with hf | hf
      · obtain ⟨j, hj, z⟩ := h.has f hf
        exact ⟨j, by omega, z⟩
      · simp at hf; subst hf; exact ⟨t, by omega, h3⟩
  by_cases q : (decide (mkS l ∈ F) || decide (mkS l ∈ WORDS)) = true
  · rw [if_pos q]
    refine key _ (rep8_ok t ht) rep_no ?_
    unfold rep8 mkS
    simp
  · rw [if_neg q]
    simp only [Bool.or_eq_true, decide_eq_true_eq, not_or] at q
    refine key _ (okName_iff.mpr ⟨fun z => by rw [z] at hm; simp at hm, hc, hl, q.2⟩) q.1 ?_
    simpa [mkS] using hm
section
variable {FN : Nat → Option FnD} (B : FB FN) {S : Sto} {n i : Nat}
include B
/-- one more name -/
theorem name_turn {m t : Nat} {F : List Str} {y1 y2 y3 y4 y5 : Option W} (ht : t < 26) (h : NmI t F) (hw : Well S i) (hF : F.length ≤ 1000) :
    ∃ (S' : Sto) (F' : List Str) (x1 x2 x3 x4 : Option W), exTs (callN FN none (n + 3)) none (Ts.cons (.par [5, 6] (.cons (.k (strD "")) (.cons (.call 23 (.cons (.v 0) (.cons (.tup (.cons (.k (.int 0)) (.cons (.k (.int 0)) (.cons (.k (.int 1)) (.cons (.k (.int 2)) (.cons (.k (.int 3)) (.cons (.k (.int 7)) .nil))))))) .nil))) .nil))) (.cons (.for (.nm 7) (.r1 (.v 6)) (.cons (.asg (.nm 5) (.bin .Add (.v 5) (.call 23 (.cons (.v 0) (.cons (.v 2) .nil))))) .nil)) (.cons (.asg (.nm 8) (.call 2 (.cons (.v 0) (.cons (.bin .Add (.v 6) (.k (.int 1))) .nil)))) (.cons (.asg (.nm 5) (.bin .Add (.bin .Add (.slc (.v 5) .no (.so (.v 8))) (.sub (.v 2) (.v 4))) (.slc (.v 5) (.so (.v 8)) .no))) (.cons (.ex (.me .append (.v 3) (.cons (.ite (.or (.cmp .In (.v 5) (.v 3)) (.cmp .In (.v 5) (.call 25 .nil))) (.bin .Mult (.sub (.v 2) (.v 4)) (.k (.int 8))) (.v 5)) .nil))) .nil))))) (nmE i m S.length (some (.d (.int (t : Int)))) y1 y2 y3 y4) (S ++ [.lst (F.map .str)]) = some ((.nx, nmE i m S.length (some (.d (.int (t : Int)))) x1 x2 x3 x4), S' ++ [.lst (F'.map .str)]) ∧ Adv S S' i ∧ NmI (t + 1) F' := by
  have hi := hw.lt
  suffices hs : Ends (callN FN none (n + 3)) (Ts.cons (.par [5, 6] (.cons (.k (strD "")) (.cons (.call 23 (.cons (.v 0) (.cons (.tup (.cons (.k (.int 0)) (.cons (.k (.int 0)) (.cons (.k (.int 1)) (.cons (.k (.int 2)) (.cons (.k (.int 3)) (.cons (.k (.int 7)) .nil))))))) .nil))) .nil))) (.cons (.for (.nm 7) (.r1 (.v 6)) (.cons (.asg (.nm 5) (.bin .Add (.v 5) (.call 23 (.cons (.v 0) (.cons (.v 2) .nil))))) .nil)) (.cons (.asg (.nm 8) (.call 2 (.cons (.v 0) (.cons (.bin .Add (.v 6) (.k (.int 1))) .nil)))) (.cons (.asg (.nm 5) (.bin .Add (.bin .Add (.slc (.v 5) .no (.so (.v 8))) (.sub (.v 2) (.v 4))) (.slc (.v 5) (.so (.v 8)) .no))) (.cons (.ex (.me .append (.v 3) (.cons (.ite (.or (.cmp .In (.v 5) (.v 3)) (.cmp .In (.v 5) (.call 25 .nil))) (.bin .Mult (.sub (.v 2) (.v 4)) (.k (.int 8))) (.v 5)) .nil))) .nil))))) (nmE i m S.length (some (.d (.int (t : Int)))) y1 y2 y3 y4) (S ++ [.lst (F.map .str)]) (fun fl e S2 => fl = .nx ∧ ∃ (S' : Sto) (F' : List Str) (x1 x2 x3 x4 : Option W), e = nmE i m S.length (some (.d (.int (t : Int)))) x1 x2 x3 x4 ∧ S2 = S' ++ [.lst (F'.map .str)] ∧ Adv S S' i ∧ NmI (t + 1) F') by
    obtain ⟨fl, e, S2, h1, rfl, S', F', x1, x2, x3, x4, rfl, rfl, h2, h3⟩ := hs
    exact ⟨S', F', x1, x2, x3, x4, h1, h2, h3⟩
  obtain ⟨y, S2, e1, ⟨s, rfl, hs7⟩, ad1⟩ := of_ok B (n := n + 1) (S := S ++ [.lst (F.map .str)]) (i := i) (x := .tuple [.int 0, .int 0, .int 1, .int 2, .int 3, .int 7]) (N := 6) (P := fun y => ∃ s : Nat, y = .int (s : Int) ∧ s ≤ 7) hw.app rfl (by omega) (by omega) (fun k hk => by
    match k, hk with
    | 0, _ => exact ⟨.int 0, rfl, 0, rfl, by omega⟩
    | 1, _ => exact ⟨.int 0, rfl, 0, rfl, by omega⟩
    | 2, _ => exact ⟨.int 1, rfl, 1, rfl, by omega⟩
    | 3, _ => exact ⟨.int 2, rfl, 2, rfl, by omega⟩
    | 4, _ => exact ⟨.int 3, rfl, 3, rfl, by omega⟩
    | 5, _ => exact ⟨.int 7, rfl, 7, rfl, by omega⟩)
  obtain ⟨S1, rfl, bd1⟩ := ad1.app hi
  refine Ends.step ⟨nmE i m S.length (some (.d (.int (t : Int)))) (some (.d (.str (mkS [])))) (some (.d (.int (s : Int)))) y3 y4, S1 ++ [.lst (F.map .str)], ?_, ?_⟩
  · unfold nmE
    have e0 : strD "" = .str (mkS []) := congrArg PyData.str (show Str.ofString "" = mkS [] by decide +kernel)
    simp [lim, LIM, e1, e0]
  refine Ends.for (fun k : Nat => PyData.int (k : Int)) (List.range s) (fun r e S2 => ∃ (l : List Nat) (S3 : Sto) (x3 : Option W), e = nmE i m S.length (some (.d (.int (t : Int)))) (some (.d (.str (mkS l)))) (some (.d (.int (s : Int)))) x3 y4 ∧ S2 = S3 ++ [.lst (F.map .str)] ∧ Adv S S3 i ∧ l.length + r.length = s ∧ ∀ c ∈ l, isLet c = true) (S1 := S1 ++ [.lst (F.map .str)]) (rng_ev (by omega) (by unfold nmE; simp)) ⟨[], S1, y3, rfl, rfl, bd1, by simp, by simp⟩ ?_ ?_
  · rintro k r e S2 ⟨l, S3, x3, rfl, rfl, ad, hlr, hc⟩
    have hw3 : Well (S3 ++ [.lst (F.map .str)]) i := (ad.well hi).app
    obtain ⟨y, S4, e4, ⟨c, rfl, hcl⟩, ad4⟩ := of_ok B (n := n + 1) (S := S3 ++ [.lst (F.map .str)]) (i := i) (x := .str LET) (N := 26) (P := fun y => ∃ c : Nat, y = .str (mkS [c]) ∧ isLet c = true) hw3 (by decide +kernel) (by omega) (by omega) (fun k hk => ⟨_, sub_LET hk, _, rfl, ch_let k hk⟩)
    obtain ⟨S4, rfl, bd4⟩ := ad4.app (by rw [ad.len]; exact hi)
    simp at hlr
    refine ⟨nmE i m S.length (some (.d (.int (t : Int)))) (some (.d (.str (mkS l)))) (some (.d (.int (s : Int)))) (some (.d (.int (k : Int)))) y4, nmE i m S.length (some (.d (.int (t : Int)))) (some (.d (.str (mkS (l ++ [c]))))) (some (.d (.int (s : Int)))) (some (.d (.int (k : Int)))) y4, S4 ++ [.lst (F.map .str)], by unfold nmE; simp, ?_, l ++ [c], S4, _, rfl, rfl, ad.trans bd4, by simp; omega, fun x hx => ?_⟩
    · have ha := strAdd (l := l) (m := [c]) (by simp; omega)
      rw [ex_cons]
      unfold nmE
      simp [e4, ha, ex_nil]
    · rcases List.mem_append.mp hx with hx | hx
      · exact hc x hx
      · simp at hx; subst hx; exact hcl
  · rintro e S2 ⟨l, S3, x3, rfl, rfl, ad, hlr, hc⟩
    simp at hlr
    have hw3 : Well (S3 ++ [.lst (F.map .str)]) i := (ad.well hi).app
    obtain ⟨r, S4, e4, hr0, hr1, ad4⟩ := draw_ok B (n := n + 2) (L := ((s + 1 : Nat) : Int)) hw3 (by omega) (by omega)
    obtain ⟨S4, rfl, bd4⟩ := ad4.app (by rw [ad.len]; exact hi)
    obtain ⟨k, rfl⟩ : ∃ k : Nat, r = k := ⟨r.toNat, by omega⟩
    have hk : k ≤ l.length := by omega
    refine Ends.step ⟨nmE i m S.length (some (.d (.int (t : Int)))) (some (.d (.str (mkS l)))) (some (.d (.int (s : Int)))) x3 (some (.d (.int (k : Int)))), S4 ++ [.lst (F.map .str)], ?_, ?_⟩
    · have e4' : callN FN none (n + 3) 2 [.ref i, .d (.int ((s : Int) + 1))] (S3 ++ [.lst (F.map .str)]) = some (.d (.int (k : Int)), S4 ++ [.lst (F.map .str)]) := by
        have : ((s + 1 : Nat) : Int) = (s : Int) + 1 := by omega
        rw [← this]; exact e4
      unfold nmE
      simp [e4']
    have s1 := slcS_take (l := l) hk (by omega)
    have s2 := slcS_drop (l := l) hk (by omega)
    have a1 := strAdd (l := l.take k) (m := [ch t]) (by simp; omega)
    have a2 := strAdd (l := l.take k ++ [ch t]) (m := l.drop k) (by simp; omega)
    refine Ends.step ⟨nmE i m S.length (some (.d (.int (t : Int)))) (some (.d (.str (mkS (l.take k ++ [ch t] ++ l.drop k))))) (some (.d (.int (s : Int)))) x3 (some (.d (.int (k : Int)))), S4 ++ [.lst (F.map .str)], ?_, ?_⟩
    · unfold nmE
      simp only [ex_asg, ev_bin, ev_slc, ev_v, ev_no, ev_so, ev_sub, slot_0, slot_s, Option.map_some, bd_some, soW_i, rdS_d, ob_some, s1, s2, subWW_d, sub_LET ht, rd_d, a1, a2, asgT_nm, asg1_s, asg1_0]
    have hlen : S4.length = S.length := by rw [bd4.len, ad.len]
    generalize hw : l.take k ++ [ch t] ++ l.drop k = w
    have hwl : w.length ≤ 8 := by rw [← hw]; simp; omega
    have hwc : ∀ c ∈ w, isLet c = true := fun c hcm => by
      rw [← hw] at hcm
      rcases List.mem_append.mp hcm with hcm | hcm
      · rcases List.mem_append.mp hcm with hcm | hcm
        · exact hc c (List.mem_of_mem_take hcm)
        · simp at hcm; subst hcm; exact ch_let t ht
      · exact hc c (List.mem_of_mem_drop hcm)
    have hwm : ch t ∈ w := by rw [← hw]; simp
    have g0 : (S4 ++ [.lst (F.map .str)])[S.length]? = some (.lst (F.map .str)) := by rw [← hlen]; exact st_get0
    have c1 : cmpD .In (.str (mkS w)) (.list (F.map .str)) = some (decide (mkS w ∈ F)) := cmpD_inL (mkS w) F (by decide)
    have c1' : cmpW .In (S4 ++ [.lst (F.map .str)]) (.d (.str (mkS w))) (.ref S.length) = some (decide (mkS w ∈ F)) := (cmpW_dlst g0).trans c1
    have c2 : cmpD .In (.str (mkS w)) (.list (WORDS.map .str)) = some (decide (mkS w ∈ WORDS)) := cmpD_inL (mkS w) WORDS (by decide)
    have c3 := words_ok B (n := n + 2) (S := S4 ++ [.lst (F.map .str)])
    have hv : evE (callN FN none (n + 3)) (.ite (.or (.cmp .In (.v 5) (.v 3)) (.cmp .In (.v 5) (.call 25 .nil))) (.bin .Mult (.sub (.v 2) (.v 4)) (.k (.int 8))) (.v 5)) (nmE i m S.length (some (.d (.int (t : Int)))) (some (.d (.str (mkS w)))) (some (.d (.int (s : Int)))) x3 (some (.d (.int (k : Int))))) (S4 ++ [.lst (F.map .str)]) = some (.d (.str (if decide (mkS w ∈ F) || decide (mkS w ∈ WORDS) then rep8 t else mkS w)), S4 ++ [.lst (F.map .str)]) := by
      unfold nmE
      by_cases q1 : mkS w ∈ F
      · simp [c1', q1, sub_LET ht, mul8]
      · by_cases q2 : mkS w ∈ WORDS
        · simp [c1', q1, c3, cmpW_d, c2, q2, sub_LET ht, mul8]
        · simp [c1', q1, c3, cmpW_d, c2, q2]
    have k2 := mm_append (x := .str (if decide (mkS w ∈ F) || decide (mkS w ∈ WORDS) then rep8 t else mkS w)) g0 (by rw [List.length_map]; exact Nat.lt_of_le_of_lt hF (by decide))
    have k3 := meTy_lst (m := .append) g0 (by simp) (by simp)
    rw [← hlen, st_set0, hlen] at k2
    refine Ends.step ⟨nmE i m S.length (some (.d (.int (t : Int)))) (some (.d (.str (mkS w)))) (some (.d (.int (s : Int)))) x3 (some (.d (.int (k : Int)))), S4 ++ [.lst ((F ++ [if decide (mkS w ∈ F) || decide (mkS w ∈ WORDS) then rep8 t else mkS w]).map .str)], ?_, Ends.nil ⟨rfl, S4, _, _, _, _, _, rfl, rfl, ad.trans bd4, h.next ht hwl hwc hwm⟩⟩
    have hr3 : evE (callN FN none (n + 3)) (.v 3) (nmE i m S.length (some (.d (.int (t : Int)))) (some (.d (.str (mkS w)))) (some (.d (.int (s : Int)))) x3 (some (.d (.int (k : Int))))) (S4 ++ [.lst (F.map .str)]) = some (.ref S.length, S4 ++ [.lst (F.map .str)]) := by unfold nmE; simp
    rw [ex_ex, ev_me, hr3, bd_some, if_pos k3, ev_cons, hv, bd_some, ev_nil, bd_some, bd_some, k2, bd_some]
    simp
end
end RW
set_option Elab.async false
set_option linter.all false
set_option maxRecDepth 100000
set_option maxHeartbeats 4000000
namespace RW
open PySem PySem.W
theorem tuple_l (xs : List D) : biD .tuple [.list xs] = some (.tuple xs) := rfl
theorem NmI.places {m : Nat} {F : List Str} (h : NmI m F) (h1 : 2 ≤ m) (h2 : m ≤ 6) : okPlaces (srt F) ∧ (srt F).length = m := by
  have hl : (srt F).length = m := by
    show (srtK id F).length = m
    rw [srtK_len, h.len]
  refine ⟨⟨by omega, by omega, fun p hp => h.ok p (srtK_mem.mp hp), ?_⟩, hl⟩
  exact srt_lt h.nd
section
variable {FN : Nat → Option FnD} (B : FB FN) {S : Sto} {n i : Nat}
include B
theorem names_ok (f27 : FN 27 = some fd__law_names_k03) {m : Nat} (hw : Well S i) (h1 : 2 ≤ m) (h2 : m ≤ 6) : ∃ ps S', callN FN none (n + 4) 27 [.ref i, .d (.int (m : Int))] S = some (.d (encL ps), S') ∧ okPlaces ps ∧ ps.length = m ∧ Adv S S' i := by
  have hi := hw.lt
  suffices hs : Ends (callN FN none (n + 3)) fd__law_names_k03.body [some (.ref i), some (.d (.int (m : Int))), none, none, none, none, none, none, none] S (fun fl _ S2 => ∃ ps S', okPlaces ps ∧ ps.length = m ∧ Adv S S' i ∧ fl = .rt (.d (encL ps)) ∧ ∃ r, S2 = S' ++ r) by
    obtain ⟨fl, e', S2, q1, ps, S', q2, q3, q4, q5, q6⟩ := hs
    exact ⟨ps, S', call_adv f27 rfl rfl rfl _ rfl q4.len ⟨fl, e', S2, q1, q5, q6⟩, q2, q3, q4⟩
  refine Ends.step ⟨nmE i m S.length none none none none none, S ++ [.lst (([] : List Str).map .str)], ?_, ?_⟩
  · rw [ex_par, ev_cons, ev_k, bd_some, ev_cons, ev_own, ev_nil, bd_some, pds_nil, ob_some, if_pos (by decide)]
    rfl
  refine Ends.for (fun k : Nat => PyData.int (k : Int)) (List.range m) (fun r e S2 => ∃ (t : Nat) (F : List Str) (S3 : Sto) (x0 x1 x2 x3 x4 : Option W), r = (List.range m).drop t ∧ t ≤ m ∧ e = nmE i m S.length x0 x1 x2 x3 x4 ∧ S2 = S3 ++ [.lst (F.map .str)] ∧ Adv S S3 i ∧ NmI t F) (S1 := S ++ [.lst (([] : List Str).map .str)]) (rng_ev (by omega) (by unfold nmE; simp)) ⟨0, [], S, _, _, _, _, _, rfl, by omega, rfl, rfl, Adv.refl hw, ⟨rfl, by simp, by simp, by simp⟩⟩ ?_ ?_
  · rintro k r e S2 ⟨t, F, S3, x0, x1, x2, x3, x4, hr, ht, rfl, rfl, ad, hN⟩
    obtain ⟨r', hr', hk⟩ := range_cons m t ht
    rw [← hr'] at hr
    obtain ⟨rfl, hr2⟩ := hk k r hr.symm
    have hkm : k < m := by
      have := congrArg List.length (hr'.symm.trans hr.symm)
      simp at this
      omega
    obtain ⟨S4, F', y1, y2, y3, y4, q1, q2, q3⟩ := name_turn B (n := n) (m := m) (t := k) (F := F) (y1 := x1) (y2 := x2) (y3 := x3) (y4 := x4) (y5 := none) (by omega) hN (ad.well hi) (by rw [hN.len]; omega)
    rw [ad.len] at q1
    refine ⟨nmE i m S.length (some (.d (.int (k : Int)))) x1 x2 x3 x4, _, _, by unfold nmE; simp, q1, k + 1, F', S4, _, _, _, _, _, hr2, by omega, rfl, rfl, ad.trans q2, q3⟩
  · rintro e S2 ⟨t, F, S3, x0, x1, x2, x3, x4, hr, ht, rfl, rfl, ad, hN⟩
    have htm : t = m := by
      have := congrArg List.length hr
      simp at this
      omega
    subst htm
    obtain ⟨p1, p2⟩ := hN.places h1 h2
    have hlen := ad.len
    have g0 : (S3 ++ [.lst (F.map .str)])[S.length]? = some (.lst (F.map .str)) := by rw [← hlen]; exact st_get0
    refine Ends.retP (w := .d (encL (srt F))) (S1 := S3 ++ [.lst (F.map .str)]) ?_ ⟨srt F, S3, p1, p2, ad, rfl, _, rfl⟩
    have hr3 : evE (callN FN none (n + 3)) (.v 3) (nmE i t S.length x0 x1 x2 x3 x4) (S3 ++ [.lst (F.map .str)]) = some (.ref S.length, S3 ++ [.lst (F.map .str)]) := by unfold nmE; simp
    have hso := sorted_str (F := F) (by rw [hN.len]; exact Nat.le_trans h2 (by decide))
    rw [ev_bi, ev_cons, ev_bi, ev_cons, hr3, bd_some, ev_nil, bd_some, bd_some, biWW_r (rd_lst g0), hso, Option.map_some, bd_some, ev_nil, bd_some, bd_some, biWW_1, tuple_l]
    rfl
/-- a list shuffled -/
theorem shuf_ok (f24 : FN 24 = some fd__law_shuffled) {xs : List D} (hw : Well S i) (hl : xs.length ≤ 1000) : ∃ ys S', callN FN none (n + 2) 24 [.ref i, .d (.list xs)] S = some (.d (.list ys), S') ∧ ys.Perm xs ∧ Adv S S' i := by
  have hi := hw.lt
  suffices hs : Ends (callN FN none (n + 1)) fd__law_shuffled.body [some (.ref i), some (.d (.list xs)), none, none, none] S (fun fl _ S2 => ∃ ys S' zs, ys.Perm xs ∧ Adv S S' i ∧ fl = .rt (.ref (S.length + 1)) ∧ S2 = S' ++ [.lst zs, .lst ys]) by
    obtain ⟨fl, e', S2, q1, ys, S', zs, q2, q3, rfl, rfl⟩ := hs
    refine ⟨ys, S', ?_, q2, q3⟩
    obtain ⟨y, S3, h1, rfl, rfl⟩ := call_ends (FN := FN) (n := n + 1) (S := S) (ws := [.ref i, .d (.list xs)]) f24 rfl rfl rfl (P := fun fl _ S2 => fl = .rt (.ref (S.length + 1)) ∧ S2 = S' ++ [.lst zs, .lst ys]) ⟨_, e', _, q1, rfl, rfl⟩ (fun y S3 => y = .d (.list ys) ∧ S3 = S') (by
      rintro fl _ S2 ⟨rfl, rfl⟩
      refine ⟨.ref (S.length + 1), .inr rfl, .d (.list ys), S', ?_, rfl, rfl⟩
      have g1 : (S' ++ [MO.lst zs, .lst ys])[S.length + 1]? = some (.lst ys) := by rw [← q3.len]; exact st_get1
      unfold handBack
      show (if S.length ≤ S.length + 1 then _ else none) = _
      rw [if_pos (by omega), g1, ← q3.len]
      simp)
    exact h1
  refine Ends.step ⟨[some (.ref i), some (.d (.list xs)), some (.ref S.length), some (.ref (S.length + 1)), none], S ++ [.lst xs, .lst []], ?_, ?_⟩
  · simp [freshI, lim, LIM]
  refine Ends.for (fun k : Nat => PyData.int (k : Int)) (List.range xs.length) (fun r e S2 => ∃ (zs ys : List D) (S3 : Sto) (x : Option W), e = [some (.ref i), some (.d (.list xs)), some (.ref S.length), some (.ref (S.length + 1)), x] ∧ S2 = S3 ++ [.lst zs, .lst ys] ∧ Adv S S3 i ∧ zs.length = r.length ∧ (zs ++ ys).Perm xs) (S1 := S ++ [.lst xs, .lst []]) (rng_ev (by omega) ?_) ⟨xs, [], S, none, rfl, rfl, Adv.refl hw, by simp, by simp⟩ ?_ ?_
  · have g0 : (S ++ [MO.lst xs, .lst []])[S.length]? = some (.lst xs) := st_get0
    rw [ev_bi, ev_cons, ev_v]
    simp only [slot_0, slot_s, Option.map_some, bd_some, ev_nil]
    rw [biWW_r (rd_lst g0), bi_lenM, len_l]
    rfl
  · rintro k r e S2 ⟨zs, ys, S3, x, rfl, rfl, ad, hz, hp⟩
    have hlen := ad.len
    have hzy := hp.length_eq
    simp at hzy hz
    have g0 : (S3 ++ [MO.lst zs, .lst ys])[S.length]? = some (.lst zs) := by rw [← hlen]; exact st_get0
    have g1 : (S3 ++ [MO.lst zs, .lst ys])[S.length + 1]? = some (.lst ys) := by rw [← hlen]; exact st_get1
    obtain ⟨q, S4, e4, hq0, hq1, ad4⟩ := draw_ok B (n := n) (S := S3 ++ [MO.lst zs, .lst ys]) (i := i) (L := (zs.length : Int)) (ad.well hi).app (by omega) (by omega)
    obtain ⟨S4, rfl, bd4⟩ := ad4.app (by rw [ad.len]; exact hi)
    obtain ⟨j, rfl⟩ : ∃ j : Nat, q = j := ⟨q.toNat, by omega⟩
    have hlen4 : S4.length = S.length := by rw [bd4.len, hlen]
    have h0 : (S4 ++ [MO.lst zs, .lst ys])[S.length]? = some (.lst zs) := by rw [← hlen4]; exact st_get0
    have hj : j < zs.length := by omega
    have hzj : zs[j]? = some zs[j] := List.getElem?_eq_getElem hj
    have hpop : meW .pop1 (S4 ++ [MO.lst zs, .lst ys]) (.ref S.length) [.d (.int (j : Int))] = some (.d zs[j], S4 ++ [.lst (zs.eraseIdx j), .lst ys]) := by
      show mePop1 _ S.length [.d (.int (j : Int))] = _
      unfold mePop1
      rw [h0]
      show (if decide ((0 : Int) ≤ j ∧ (j : Int) < LIM) = true then ((zs[(j : Int).toNat]?).map fun x => (W.d x, (S4 ++ [MO.lst zs, .lst ys]).set S.length (.lst (zs.eraseIdx (j : Int).toNat)))) else none) = _
      have hL : LIM = 16000000 := rfl
      rw [if_pos (by rw [decide_eq_true_eq, hL]; omega), Int.toNat_natCast, hzj, ← hlen4, st_set0]
      rfl
    have t0 := meTy_lst (m := .pop1) g0 (by simp) (by simp)
    have t1 := meTy_lst (m := .append) g1 (by simp) (by simp)
    have f1 : (S4 ++ [MO.lst (zs.eraseIdx j), .lst ys])[S.length + 1]? = some (.lst ys) := by rw [← hlen4]; exact st_get1
    have k2 := mm_append (x := zs[j]) f1 (by have hL : LIM = 16000000 := rfl; omega)
    rw [← hlen4, st_set1, hlen4] at k2
    refine ⟨[some (.ref i), some (.d (.list xs)), some (.ref S.length), some (.ref (S.length + 1)), some (.d (.int (k : Int)))], [some (.ref i), some (.d (.list xs)), some (.ref S.length), some (.ref (S.length + 1)), some (.d (.int (k : Int)))], S4 ++ [.lst (zs.eraseIdx j), .lst (ys ++ [zs[j]])], by simp, ?_, zs.eraseIdx j, ys ++ [zs[j]], S4, _, rfl, rfl, ad.trans bd4, ?_, ?_⟩
    · have v0 : ∀ S' : Sto, evE (callN FN none (n + 1)) (.v 2) [some (.ref i), some (.d (.list xs)), some (.ref S.length), some (.ref (S.length + 1)), some (.d (.int (k : Int)))] S' = some (.ref S.length, S') := fun S' => by simp
      have v1 : ∀ S' : Sto, evE (callN FN none (n + 1)) (.v 3) [some (.ref i), some (.d (.list xs)), some (.ref S.length), some (.ref (S.length + 1)), some (.d (.int (k : Int)))] S' = some (.ref (S.length + 1), S') := fun S' => by simp
      have hlen2 : evE (callN FN none (n + 1)) (.bi .len (.cons (.v 2) .nil)) [some (.ref i), some (.d (.list xs)), some (.ref S.length), some (.ref (S.length + 1)), some (.d (.int (k : Int)))] (S3 ++ [MO.lst zs, .lst ys]) = some (.d (.int zs.length), S3 ++ [MO.lst zs, .lst ys]) := by
        rw [ev_bi, ev_cons, v0, bd_some, ev_nil, bd_some, bd_some, biWW_r (rd_lst g0), bi_lenM, len_l]; rfl
      have hdr : evE (callN FN none (n + 1)) (.call 2 (.cons (.v 0) (.cons (.bi .len (.cons (.v 2) .nil)) .nil))) [some (.ref i), some (.d (.list xs)), some (.ref S.length), some (.ref (S.length + 1)), some (.d (.int (k : Int)))] (S3 ++ [MO.lst zs, .lst ys]) = some (.d (.int (j : Int)), S4 ++ [MO.lst zs, .lst ys]) := by
        rw [ev_call, ev_cons, ev_v, slot_0, Option.map_some, bd_some, ev_cons, hlen2, bd_some, ev_nil, bd_some, bd_some, bd_some, if_pos (show noClo [W.ref i, W.d (PyData.int zs.length)] = true from rfl), e4]
      rw [ex_cons, ex_ex, ev_me, v1, bd_some, if_pos t1, ev_cons, ev_me, v0, bd_some, if_pos t0, ev_cons, hdr, bd_some, ev_nil, bd_some, bd_some, hpop, bd_some, ev_nil, bd_some, bd_some, k2, bd_some, bd_some, seqE_nx, ex_nil]
    · rw [List.length_eraseIdx_of_lt hj]; omega
    · refine List.Perm.trans ?_ hp
      have h3 : (zs.eraseIdx j ++ [zs[j]]).Perm zs := by
        have := List.eraseIdx_eq_take_drop_succ zs j
        rw [this]
        have h4 : zs = zs.take j ++ zs[j] :: zs.drop (j + 1) := by
          rw [List.getElem_cons_drop, List.take_append_drop]
        conv => rhs; rw [h4]
        rw [List.append_assoc]
        exact List.Perm.append_left _ (List.perm_append_comm)
      rw [← List.append_assoc]
      have h5 : (zs.eraseIdx j ++ ys ++ [zs[j]]).Perm (zs.eraseIdx j ++ [zs[j]] ++ ys) := by
        rw [List.append_assoc, List.append_assoc]
        exact List.Perm.append_left _ List.perm_append_comm
      exact h5.trans (h3.append_right ys)
  · rintro e S2 ⟨zs, ys, S3, x, rfl, rfl, ad, hz, hp⟩
    have : zs = [] := List.length_eq_zero_iff.mp (by simpa using hz)
    subst this
    refine Ends.retP (w := .ref (S.length + 1)) (S1 := S3 ++ [.lst [], .lst ys]) (by simp) ⟨ys, S3, [], by simpa using hp, ad, rfl, rfl⟩
end
end RW
set_option Elab.async false
set_option linter.all false
set_option maxRecDepth 100000
set_option maxHeartbeats 4000000
namespace RW
open PySem PySem.W
/-! ## drawn webs: plain -/
theorem perm_of_map {α β : Type} [DecidableEq α] (f : α → β) : ∀ {ys : List β} {l : List α}, ys.Perm (l.map f) → ∃ os : List α, ys = os.map f ∧ os.Perm l
  | [], l, h => by
    have := h.symm.eq_nil
    rw [List.map_eq_nil_iff] at this
    subst this
    exact ⟨[], rfl, .refl _⟩
  | y :: ys, l, h => by
    have hy : y ∈ l.map f := h.mem_iff.mp (by simp)
    obtain ⟨x, hx, rfl⟩ := List.mem_map.mp hy
    have hl := List.perm_cons_erase hx
    have h2 : (f x :: ys).Perm (f x :: (l.erase x).map f) := h.trans (hl.map f)
    obtain ⟨os, rfl, ho⟩ := perm_of_map f ((List.perm_cons _).mp h2)
    exact ⟨x :: os, rfl, (ho.cons x).trans hl.symm⟩
/-- the pairs, drawn -/
structure PrI (m t : Nat) (P : List (Nat × Nat)) : Prop where
  nd : P.Nodup
  lt : ∀ p ∈ P, p.1 < p.2 ∧ p.2 < m
  tr : ∀ k, 1 ≤ k → k < t → ∃ j, j < k ∧ (j, k) ∈ P
  len : P.length ≤ 9
def phi (ps : List Str) (os : List Nat) (k : Nat) : Str := ps.getD (os.getD k 0) Str.empty
def tieOf (ps : List Str) (os : List Nat) (p : Nat × Nat) : Str × Str := if sLt (phi ps os p.1) (phi ps os p.2) then (phi ps os p.1, phi ps os p.2) else (phi ps os p.2, phi ps os p.1)
section
variable {ps : List Str} {os : List Nat} {m : Nat} {P : List (Nat × Nat)}
theorem sLt_total {a b : Str} (h : a ≠ b) : sLt a b = true ∨ sLt b a = true := by
  cases q : sLt a b with
  | true => exact .inl rfl
  | false =>
    refine .inr ?_
    cases z : sLt b a with
    | true => rfl
    | false => exact absurd (dlt_total (α := Str) q z) h
theorem phi_at (hl : ps.length = m) (ho : os.Perm (List.range m)) {k : Nat} (hk : k < m) : ∃ x, x < m ∧ os[k]? = some x ∧ ps[x]? = some (phi ps os k) := by
  have hol : os.length = m := by rw [ho.length_eq, List.length_range]
  have hx : os[k]? = some os[k] := List.getElem?_eq_getElem (by omega)
  have hm : os[k] < m := List.mem_range.mp (ho.mem_iff.mp (List.getElem_mem (by omega)))
  refine ⟨os[k], hm, hx, ?_⟩
  have e1 : os.getD k 0 = os[k] := by rw [List.getD_eq_getElem?_getD, hx]; rfl
  unfold phi
  rw [e1, List.getD_eq_getElem?_getD, List.getElem?_eq_getElem (by omega : os[k] < ps.length)]
  rfl
theorem phi_mem (hl : ps.length = m) (ho : os.Perm (List.range m)) {k : Nat} (hk : k < m) : phi ps os k ∈ ps := by
  obtain ⟨x, _, _, h⟩ := phi_at hl ho hk
  exact List.mem_of_getElem? h
theorem phi_inj (nd : ps.Nodup) (hl : ps.length = m) (ho : os.Perm (List.range m)) {j k : Nat} (hj : j < m) (hk : k < m) (e : phi ps os j = phi ps os k) : j = k := by
  obtain ⟨x, hx, h1, h2⟩ := phi_at hl ho hj
  obtain ⟨y, hy, h3, h4⟩ := phi_at hl ho hk
  rw [e] at h2
  have hxy : x = y := by
    obtain ⟨z1, e1⟩ := List.getElem?_eq_some_iff.mp h2
    obtain ⟨z2, e2⟩ := List.getElem?_eq_some_iff.mp h4
    exact (List.getElem_inj nd).mp (e1.trans e2.symm)
  subst hxy
  have ndo : os.Nodup := ho.nodup_iff.mpr List.nodup_range
  obtain ⟨z1, e1⟩ := List.getElem?_eq_some_iff.mp h1
  obtain ⟨z2, e2⟩ := List.getElem?_eq_some_iff.mp h3
  exact (List.getElem_inj ndo).mp (e1.trans e2.symm)
theorem phi_sur (hl : ps.length = m) (ho : os.Perm (List.range m)) {p : Str} (hp : p ∈ ps) : ∃ k, k < m ∧ phi ps os k = p := by
  obtain ⟨x, hx, rfl⟩ := List.getElem_of_mem hp
  have hm : x ∈ os := ho.mem_iff.mpr (List.mem_range.mpr (by omega))
  obtain ⟨k, hk, e⟩ := List.getElem_of_mem hm
  have hol : os.length = m := by rw [ho.length_eq, List.length_range]
  refine ⟨k, by omega, ?_⟩
  have e1 : os.getD k 0 = x := by rw [List.getD_eq_getElem?_getD, List.getElem?_eq_getElem hk, e]; rfl
  unfold phi
  rw [e1, List.getD_eq_getElem?_getD, List.getElem?_eq_getElem hx]
  rfl
/-- the drawn web is right -/
theorem web_right (hp : okPlaces ps) (hl : ps.length = m) (ho : os.Perm (List.range m)) (h : PrI m m P) : okWeb ps (srt (P.map (tieOf ps os))) := by
  have nd := hp.nd
  have hm2 : 2 ≤ m := by have := hp.1; omega
  have mem : ∀ t, t ∈ srt (P.map (tieOf ps os)) ↔ ∃ p ∈ P, tieOf ps os p = t := fun t => by
    rw [show srt (P.map (tieOf ps os)) = srtK id (P.map (tieOf ps os)) from rfl, srtK_mem, List.mem_map]
  have good : ∀ p ∈ P, phi ps os p.1 ∈ ps ∧ phi ps os p.2 ∈ ps ∧ phi ps os p.1 ≠ phi ps os p.2 := fun p hpP => by
    obtain ⟨h1, h2⟩ := h.lt p hpP
    exact ⟨phi_mem hl ho (by omega), phi_mem hl ho h2, fun e => by have := phi_inj nd hl ho (by omega) h2 e; omega⟩
  have ndT : (P.map (tieOf ps os)).Nodup := by
    unfold List.Nodup
    rw [List.pairwise_map]
    refine List.Pairwise.imp_of_mem ?_ h.nd
    intro p q hpP hq hne e
    obtain ⟨a1, a2⟩ := h.lt p hpP
    obtain ⟨b1, b2⟩ := h.lt q hq
    have inj := fun {j k : Nat} (hj : j < m) (hk : k < m) (e : phi ps os j = phi ps os k) => phi_inj nd hl ho hj hk e
    unfold tieOf at e
    refine hne (Prod.ext ?_ ?_) <;> (split at e <;> split at e <;> simp only [Prod.mk.injEq] at e <;> (have e1 := inj (by omega) (by omega) e.1; have e2 := inj (by omega) (by omega) e.2; omega))
  have hlen : (srt (P.map (tieOf ps os))).length = P.length := by
    show (srtK id _).length = _
    rw [srtK_len, List.length_map]
  have adjP : ∀ i j, (i, j) ∈ P → adj (srt (P.map (tieOf ps os))) (phi ps os i) (phi ps os j) := fun i j hij => by
    have hm := (mem (tieOf ps os (i, j))).mpr ⟨_, hij, rfl⟩
    unfold tieOf at hm
    unfold adj
    split at hm
    · exact .inl hm
    · exact .inr hm
  have r0 : ∀ k, k < m → Reach (srt (P.map (tieOf ps os))) (phi ps os 0) (phi ps os k) := fun k => by
    induction k using Nat.strongRecOn with
    | ind k ih =>
      intro hk
      by_cases h0 : k = 0
      · subst h0; exact .refl
      · obtain ⟨j, hj, hjk⟩ := h.tr k (by omega) hk
        exact (ih j hj (by omega)).step (adjP j k hjk)
  refine ⟨hp, ⟨?_, ?_, fun t ht => ?_, ?_⟩, fun p hpp q hq => ?_⟩
  · rw [hlen]
    obtain ⟨j, _, hj⟩ := h.tr 1 (by omega) (by omega)
    exact List.length_pos_of_mem hj
  · rw [hlen]; exact h.len
  · obtain ⟨p, hpP, rfl⟩ := (mem t).mp ht
    obtain ⟨g1, g2, g3⟩ := good p hpP
    unfold tieOf
    split
    · exact ⟨g1, g2, by assumption⟩
    · rename_i z
      exact ⟨g2, g1, (sLt_total g3).resolve_left (by simpa using z)⟩
  · exact srt_lt ndT
  · obtain ⟨j, hj, rfl⟩ := phi_sur hl ho hpp
    obtain ⟨k, hk, rfl⟩ := phi_sur hl ho hq
    exact (r0 j hj).symm.trans (r0 k hk)
/-- one pair put in -/
def insP (P : List (Nat × Nat)) (k : Nat × Nat) : List (Nat × Nat) := if k ∈ P then P else P ++ [k]
theorem insP_mem {k p : Nat × Nat} : p ∈ insP P k ↔ p ∈ P ∨ p = k := by
  unfold insP
  split
  · rename_i h
    constructor
    · exact .inl
    · rintro (z | rfl)
      · exact z
      · exact h
  · simp
theorem insP_nd {k : Nat × Nat} (h : P.Nodup) : (insP P k).Nodup := by
  unfold insP
  split
  · exact h
  · rename_i q
    rw [List.nodup_append]
    exact ⟨h, by simp, fun a ha b hb e => by simp at hb; subst hb; exact q (e ▸ ha)⟩
theorem insP_len (k : Nat × Nat) : (insP P k).length ≤ P.length + 1 := by
  unfold insP
  split <;> simp
end
end RW
set_option Elab.async false
set_option linter.all false
set_option maxRecDepth 100000
set_option maxHeartbeats 4000000
namespace RW
open PySem PySem.W
def pkD (p : Nat × Nat) : D := .tuple [.int (p.1 : Int), .int (p.2 : Int)]
def prD (P : List (Nat × Nat)) : List (D × D) := P.map fun p => (pkD p, .bool true)
theorem pk_eqv (p q : Nat × Nat) : PyData.eqv (pkD p) (pkD q) = decide (p = q) := by
  have h := Datum.eqv (((p.1 : Int), (p.2 : Int)) : Int × Int) ((q.1 : Int), (q.2 : Int))
  refine Eq.trans h ?_
  rw [decide_eq_decide]
  constructor
  · intro e
    have e1 := congrArg Prod.fst e
    have e2 := congrArg Prod.snd e
    simp only at e1 e2
    exact Prod.ext (by omega) (by omega)
  · rintro rfl; rfl
theorem dget_pr (P : List (Nat × Nat)) (q : Nat × Nat) : (dget (prD P) (pkD q)).isSome = decide (q ∈ P) := by
  unfold dget prD
  rw [Option.isSome_map, find_any, List.any_map, Bool.eq_iff_iff, List.any_eq_true, decide_eq_true_eq]
  constructor
  · rintro ⟨p, hp, e⟩
    have e : PyData.eqv (pkD p) (pkD q) = true := e
    rw [pk_eqv, decide_eq_true_eq] at e
    rw [← e]; exact hp
  · intro h
    exact ⟨q, h, by show PyData.eqv (pkD q) (pkD q) = true; rw [pk_eqv]; simp⟩
theorem setIS_pr {S : Sto} {i : Nat} {P : List (Nat × Nat)} {q : Nat × Nat} (h : S[i]? = some (.dct true (prD P))) (hl : P.length < 1000) : setIS S i (pkD q) (.bool true) = some (S.set i (.dct true (prD (insP P q)))) := by
  unfold setIS
  rw [h]
  have hk : keyD (pkD q) = true := by simp [keyD, pkD, keyA]
  have ht : (isTupD (pkD q) == true) = true := by simp [isTupD, pkD]
  have hl' : decide ((prD P).length < LIM) = true := by rw [decide_eq_true_eq]; unfold prD; rw [List.length_map]; have : LIM = 16000000 := rfl; omega
  show (if (keyD (pkD q) && (isTupD (pkD q) == true) && decide ((prD P).length < LIM)) = true then some (S.set i (.dct true (dput (prD P) (pkD q) (.bool true)))) else none) = _
  rw [hk, ht, hl', if_pos (by rfl)]
  congr 3
  unfold dput insP
  rw [dget_pr]
  by_cases hq : q ∈ P
  · rw [if_pos (by simpa using hq), if_pos hq]
    unfold prD
    rw [List.map_map]
    refine List.map_congr_left fun p _ => ?_
    show (if PyData.eqv (pkD p) (pkD q) then (pkD p, PyData.bool true) else (pkD p, PyData.bool true)) = _
    split <;> rfl
  · rw [if_neg (by simpa using hq), if_neg hq]
    unfold prD
    rw [List.map_append]; rfl
theorem min_ii (x y : Nat) : biD .min [.int (x : Int), .int (y : Int)] = some (.int ((min x y : Nat) : Int)) := by
  show (if atomD (.int (x : Int)) (.int (y : Int)) then some (leastD (.int (x : Int)) [.int (y : Int)]) else none) = _
  rw [if_pos (show atomD (.int (x : Int)) (.int (y : Int)) = true from rfl)]
  show some (if dataLt (.int (y : Int)) (.int (x : Int)) then PyData.int (y : Int) else .int (x : Int)) = _
  rw [dataLt_int]
  by_cases h : (y : Int) < x
  · rw [decide_eq_true h, if_pos rfl, Nat.min_eq_right (by omega)]
  · rw [decide_eq_false h, if_neg (by simp), Nat.min_eq_left (by omega)]
theorem max_ii (x y : Nat) : biD .max [.int (x : Int), .int (y : Int)] = some (.int ((max x y : Nat) : Int)) := by
  show (if atomD (.int (x : Int)) (.int (y : Int)) then some (mostD (.int (x : Int)) [.int (y : Int)]) else none) = _
  rw [if_pos (show atomD (.int (x : Int)) (.int (y : Int)) = true from rfl)]
  show some (if dataLt (.int (x : Int)) (.int (y : Int)) then PyData.int (y : Int) else .int (x : Int)) = _
  rw [dataLt_int]
  by_cases h : (x : Int) < y
  · rw [decide_eq_true h, if_pos rfl, Nat.max_eq_right (by omega)]
  · rw [decide_eq_false h, if_neg (by simp), Nat.max_eq_left (by omega)]
theorem listRange_n {m : Nat} (h : m ≤ 1000) : biD .listRange [.int (m : Int)] = some (.list ((List.range m).map fun k : Nat => .int (k : Int))) := by
  show (if (small62 (m : Int) && lim (m : Int).toNat) = true then some (PyData.list (rangeL 0 (m : Int))) else none) = _
  rw [if_pos, rangeL_eq]
  rw [small62_n (by omega), Int.toNat_natCast, lim, Bool.true_and, decide_eq_true_eq]
  have : LIM = 16000000 := rfl
  omega
theorem list_pr (P : List (Nat × Nat)) : biD .list [.dict (prD P)] = some (.list (P.map pkD)) := by
  show (if ((prD P).all fun p => keyD p.1) = true then some (PyData.list ((prD P).map (·.1))) else none) = _
  rw [if_pos]
  · unfold prD; rw [List.map_map]; rfl
  · unfold prD
    rw [List.all_map, List.all_eq_true]
    intro p _
    show keyD (pkD p) = true
    simp [keyD, pkD, keyA]
theorem len_pr (P : List (Nat × Nat)) : lenD (.dict (prD P)) = some P.length := by
  show (if ((prD P).all fun p => keyD p.1) = true then some (prD P).length else none) = _
  rw [if_pos]
  · unfold prD; rw [List.length_map]
  · unfold prD
    rw [List.all_map, List.all_eq_true]
    intro p _
    show keyD (pkD p) = true
    simp [keyD, pkD, keyA]
theorem sorted_two {a b : Str} (h : a ≠ b) : biD .sorted [.tuple [.str a, .str b]] = some (.list (if sLt a b then [.str a, .str b] else [.str b, .str a])) := by
  have e0 : biD .sorted [.tuple [.str a, .str b]] = if sortOk ([a, b].map PyData.str) then some (.list (sortD ([a, b].map .str))) else none := rfl
  have e := sortOk_of [a, b] (by decide) (show 2 ≤ LIM by decide) (.inr fun _ => rfl)
  have e2 := sortD_map [a, b]
  rw [e0, show [a, b].map PyData.str = [a, b].map Datum.toD from rfl, if_pos e, e2]
  have key : srt [a, b] = if sLt a b then [a, b] else [b, a] := by
    symm
    refine srtK_uniq (k := id) (fun _ _ h => h) ?_ ?_
    · split
      · rename_i q
        simp only [List.pairwise_cons, List.mem_singleton, forall_eq]
        exact ⟨dle_of_lt q, by simp, by simp⟩
      · rename_i q
        have := (sLt_total h).resolve_left (by simpa using q)
        simp only [List.pairwise_cons, List.mem_singleton, forall_eq]
        exact ⟨dle_of_lt this, by simp, by simp⟩
    · split
      · exact .refl _
      · exact List.Perm.swap _ _ _
  rw [key]
  split <;> rfl
theorem limT2 {x y : D} : lim [x, y].length = true := by show lim 2 = true; decide
theorem limT5 {a b c d e : D} : lim [a, b, c, d, e].length = true := by show lim 5 = true; decide
def wbE (i l m : Nat) (many names q k lap order ties one two : Option W) : Env1 := [some (.ref i), some (.d (.int (l : Int))), some (.d (.int (m : Int))), many, names, q, k, lap, order, ties, one, two]
section
variable {FN : Nat → Option FnD} (B : FB FN) {S : Sto} {n i : Nat}
include B
theorem web_ok (f24 : FN 24 = some fd__law_shuffled) (f28 : FN 28 = some fd__law_web) (names : ∀ {S : Sto} {m : Nat}, Well S i → 2 ≤ m → m ≤ 6 → ∃ ps S', callN FN none (n + 4) 27 [.ref i, .d (.int (m : Int))] S = some (.d (encL ps), S') ∧ okPlaces ps ∧ ps.length = m ∧ Adv S S' i) {l m : Nat} (hw : Well S i) (h1 : 2 ≤ l) (h2 : l ≤ m) (h3 : m ≤ 6) :
    ∃ ps ts S', callN FN none (n + 5) 28 [.ref i, .d (.int (l : Int)), .d (.int (m : Int))] S = some (.d (partsD ps ts), S') ∧ okWeb ps ts ∧ l ≤ ps.length ∧ ps.length ≤ m ∧ Adv S S' i := by
  have hi := hw.lt
  suffices hs : Ends (callN FN none (n + 4)) fd__law_web.body [some (.ref i), some (.d (.int (l : Int))), some (.d (.int (m : Int))), none, none, none, none, none, none, none, none, none] S (fun fl _ S2 => ∃ ps ts S', okWeb ps ts ∧ l ≤ ps.length ∧ ps.length ≤ m ∧ Adv S S' i ∧ fl = .rt (.d (partsD ps ts)) ∧ ∃ r, S2 = S' ++ r) by
    obtain ⟨fl, e', S2, q1, ps, ts, S', q2, q3, q4, q5, q6, q7⟩ := hs
    exact ⟨ps, ts, S', call_adv f28 rfl rfl rfl _ rfl q5.len ⟨fl, e', S2, q1, q6, q7⟩, q2, q3, q4, q5⟩
  obtain ⟨r, S1, e1, hr0, hr1, ad1⟩ := draw_ok B (n := n + 3) (L := (((m - l + 1 : Nat)) : Int)) hw (by omega) (by omega)
  obtain ⟨d, rfl⟩ : ∃ d : Nat, r = d := ⟨r.toNat, by omega⟩
  obtain ⟨k, hk⟩ : ∃ k, k = l + d := ⟨_, rfl⟩
  have hk2 : 2 ≤ k := by omega
  have hkm : k ≤ m := by omega
  have e1' : callN FN none (n + 4) 2 [.ref i, .d (.int ((m : Int) - (l : Int) + 1))] S = some (.d (.int (d : Int)), S1) := by
    rw [show (m : Int) - (l : Int) + 1 = ((m - l + 1 : Nat) : Int) by omega]; exact e1
  refine Ends.step ⟨wbE i l m (some (.d (.int (k : Int)))) none none none none none none none none, S1, ?_, ?_⟩
  · rw [hk]
    unfold wbE
    simp [e1']
  obtain ⟨ps, S2, e2, hps, hpl, ad2⟩ := names (ad1.well hi) hk2 (by omega)
  have hlen2 : S2.length = S.length := by rw [ad2.len, ad1.len]
  refine Ends.step ⟨wbE i l m (some (.d (.int (k : Int)))) (some (.d (encL ps))) (some (.ref S.length)) none none none none none none, S2 ++ [.dct true (prD [])], ?_, ?_⟩
  · unfold wbE
    simp [e2, freshI, hlen2, prD]
  have ad12 := ad1.trans ad2
  refine Ends.for (fun j : Nat => PyData.int ((1 + j : Nat) : Int)) (List.range (k - 1)) (fun r e S3 => ∃ (t : Nat) (P : List (Nat × Nat)) (S4 : Sto) (x : Option W), r = (List.range (k - 1)).drop t ∧ t ≤ k - 1 ∧ e = wbE i l m (some (.d (.int (k : Int)))) (some (.d (encL ps))) (some (.ref S.length)) x none none none none none ∧ S3 = S4 ++ [.dct true (prD P)] ∧ Adv S S4 i ∧ PrI k (t + 1) P ∧ (∀ p ∈ P, p.2 < t + 1) ∧ P.length = t) (S1 := S2 ++ [.dct true (prD [])]) ?_ ⟨0, [], S2, none, rfl, by omega, rfl, rfl, ad12, ⟨by simp, by simp, fun j h1 h2 => by omega, by simp⟩, by simp, rfl⟩ ?_ ?_
  · have hsm : (small62 1 && small62 (k : Int)) = true := by
      have a1 := small62_n (n := 1) (by omega)
      have a2 := small62_n (n := k) (by omega)
      rw [a2]
      rw [show (1 : Int) = ((1 : Nat) : Int) from rfl, a1]; rfl
    have hrg : rangeL 1 (k : Int) = (List.range (k - 1)).map fun j : Nat => PyData.int ((1 + j : Nat) : Int) := by
      unfold rangeL
      rw [show ((k : Int) - 1).toNat = k - 1 by omega]
      refine List.map_congr_left fun j _ => ?_
      rw [show (1 : Int) + (j : Int) = ((1 + j : Nat) : Int) by omega]
    rw [ev_r2, ev_k, bd_some, ev_v]
    unfold wbE
    simp only [slot_0, slot_s, Option.map_some, bd_some]
    rw [r2W_i, if_pos hsm, hrg]
  · rintro j r e S3 ⟨t, P, S4, x, hr, ht, rfl, rfl, ad, hP, hPt, hPl⟩
    obtain ⟨r', hr', hj⟩ := range_cons (k - 1) t ht
    rw [← hr'] at hr
    obtain ⟨rfl, hr2⟩ := hj j r hr.symm
    have hjk : j < k - 1 := by
      have := congrArg List.length (hr'.symm.trans hr.symm)
      simp at this
      omega
    have hlen4 : S4.length = S.length := ad.len
    obtain ⟨r3, S5, e5, h50, h51, ad5⟩ := draw_ok B (n := n + 3) (S := S4 ++ [.dct true (prD P)]) (L := ((1 + j : Nat) : Int)) (ad.well hi).app (by omega) (by omega)
    obtain ⟨S5, rfl, bd5⟩ := ad5.app (by rw [hlen4]; exact hi)
    have hlen5 : S5.length = S.length := by rw [bd5.len, hlen4]
    obtain ⟨q, rfl⟩ : ∃ q : Nat, r3 = q := ⟨r3.toNat, by omega⟩
    have g0 : (S5 ++ [MO.dct true (prD P)])[S.length]? = some (.dct true (prD P)) := by rw [← hlen5]; exact st_get0
    have hs := setIS_pr (q := (q, 1 + j)) g0 (by omega)
    rw [← hlen5, st_set0, hlen5] at hs
    have hnew : (q, 1 + j) ∉ P := fun z => by have := hPt _ z; simp at this; omega
    refine ⟨wbE i l m (some (.d (.int (k : Int)))) (some (.d (encL ps))) (some (.ref S.length)) (some (.d (.int ((1 + j : Nat) : Int)))) none none none none none, wbE i l m (some (.d (.int (k : Int)))) (some (.d (encL ps))) (some (.ref S.length)) (some (.d (.int ((1 + j : Nat) : Int)))) none none none none none, S5 ++ [.dct true (prD (insP P (q, 1 + j)))], by unfold wbE; simp, ?_, j + 1, insP P (q, 1 + j), S5, _, hr2, by omega, rfl, rfl, ad.trans bd5, ?_, ?_, ?_⟩
    · have ha : evE (callN FN none (n + 4)) (.v 5) (wbE i l m (some (.d (.int (k : Int)))) (some (.d (encL ps))) (some (.ref S.length)) (some (.d (.int ((1 + j : Nat) : Int)))) none none none none none) (S4 ++ [.dct true (prD P)]) = some (.ref S.length, S4 ++ [.dct true (prD P)]) := by unfold wbE; simp
      have hb : evE (callN FN none (n + 4)) (.tup (.cons (.call 2 (.cons (.v 0) (.cons (.v 6) .nil))) (.cons (.v 6) .nil))) (wbE i l m (some (.d (.int (k : Int)))) (some (.d (encL ps))) (some (.ref S.length)) (some (.d (.int ((1 + j : Nat) : Int)))) none none none none none) (S4 ++ [.dct true (prD P)]) = some (.d (pkD (q, 1 + j)), S5 ++ [.dct true (prD P)]) := by
        have e5' : callN FN none (n + 4) 2 [.ref i, .d (.int ((1 + j : Nat) : Int))] (S4 ++ [.dct true (prD P)]) = some (.d (.int (q : Int)), S5 ++ [.dct true (prD P)]) := e5
        unfold wbE
        simp only [ev_tup, ev_cons, ev_call, ev_v, ev_nil, slot_0, slot_s, Option.map_some, bd_some, noClo_ref, noClo_d, noClo_nil, if_true]
        rw [e5']
        simp only [bd_some, pds_cons, pds_nil, Option.map_some, ob_some]
        rw [if_pos limT2]
        rfl
      rw [ex_cons, ex_setI, ev_k, bd_some, ha, bd_some, hb, bd_some, setIW_r, pd_d, ob_some, pd_d, ob_some, hs, ob_some, bd_some, seqE_nx, ex_nil]
    · refine ⟨insP_nd hP.nd, fun p hp => ?_, fun a ha1 ha2 => ?_, ?_⟩
      · rcases insP_mem.mp hp with hp | rfl
        · exact hP.lt p hp
        · simp; omega
      · by_cases hae : a = 1 + j
        · subst hae
          exact ⟨q, by omega, insP_mem.mpr (.inr rfl)⟩
        · obtain ⟨b, hb1, hb2⟩ := hP.tr a ha1 (by omega)
          exact ⟨b, hb1, insP_mem.mpr (.inl hb2)⟩
      · have := insP_len (P := P) (q, 1 + j); omega
    · intro p hp
      rcases insP_mem.mp hp with hp | rfl
      · have := hPt p hp; omega
      · simp; omega
    · unfold insP; rw [if_neg hnew]; simp [hPl]
  rintro e S3 ⟨t, P, S4, x, hr, ht, rfl, rfl, ad, hP, hPt, hPl⟩
  have htk : t = k - 1 := by
    have := congrArg List.length hr
    simp at this
    omega
  subst htk
  rw [show k - 1 + 1 = k by omega] at hP
  have hlen4 : S4.length = S.length := ad.len
  obtain ⟨y, S5, e5, ⟨s, rfl, hs7⟩, ad5⟩ := of_ok B (n := n + 2) (S := S4 ++ [.dct true (prD P)]) (i := i) (x := .tuple [.int 0, .int 1, .int 2, .int 4, .int 7]) (N := 5) (P := fun y => ∃ s : Nat, y = .int (s : Int) ∧ s ≤ 7) (ad.well hi).app rfl (by omega) (by omega) (fun k hk => by
    match k, hk with
    | 0, _ => exact ⟨.int 0, rfl, 0, rfl, by omega⟩
    | 1, _ => exact ⟨.int 1, rfl, 1, rfl, by omega⟩
    | 2, _ => exact ⟨.int 2, rfl, 2, rfl, by omega⟩
    | 3, _ => exact ⟨.int 4, rfl, 4, rfl, by omega⟩
    | 4, _ => exact ⟨.int 7, rfl, 7, rfl, by omega⟩)
  obtain ⟨S5, rfl, bd5⟩ := ad5.app (by rw [hlen4]; exact hi)
  have it2 : evI (callN FN none (n + 4)) (.r1 (.call 23 (.cons (.v 0) (.cons (.tup (.cons (.k (.int 0)) (.cons (.k (.int 1)) (.cons (.k (.int 2)) (.cons (.k (.int 4)) (.cons (.k (.int 7)) .nil)))))) .nil)))) (wbE i l m (some (.d (.int (k : Int)))) (some (.d (encL ps))) (some (.ref S.length)) x none none none none none) (S4 ++ [.dct true (prD P)]) = some ((List.range s).map fun j : Nat => PyData.int (j : Int), S5 ++ [.dct true (prD P)]) := by
    refine rng_ev (by omega) ?_
    unfold wbE
    simp only [ev_call, ev_cons, ev_v, ev_tup, ev_k, ev_nil, slot_0, slot_s, Option.map_some, bd_some, pds_cons, pds_nil, ob_some]
    rw [if_pos limT5]
    simp only [bd_some, noClo_ref, noClo_d, noClo_nil, if_true]
    exact e5
  refine Ends.for (fun j : Nat => PyData.int (j : Int)) (List.range s) (fun r e S3 => ∃ (P : List (Nat × Nat)) (S6 : Sto) (z o w : Option W), e = wbE i l m (some (.d (.int (k : Int)))) (some (.d (encL ps))) (some (.ref S.length)) x z none none o w ∧ S3 = S6 ++ [.dct true (prD P)] ∧ Adv S S6 i ∧ PrI k k P) it2 ⟨P, S5, _, _, _, rfl, rfl, ad.trans bd5, hP⟩ ?_ ?_
  · rintro j r e S3 ⟨P, S6, z, o, w, rfl, rfl, ad, hP⟩
    have hlen6 : S6.length = S.length := ad.len
    obtain ⟨r1, S7, e7, h70, h71, ad7⟩ := draw_ok B (n := n + 3) (S := S6 ++ [.dct true (prD P)]) (L := (k : Int)) (ad.well hi).app (by omega) (by omega)
    obtain ⟨S7, rfl, bd7⟩ := ad7.app (by rw [hlen6]; exact hi)
    have hlen7 : S7.length = S.length := by rw [bd7.len, hlen6]
    obtain ⟨a, rfl⟩ : ∃ q : Nat, r1 = q := ⟨r1.toNat, by omega⟩
    obtain ⟨r2, S8, e8, h80, h81, ad8⟩ := draw_ok B (n := n + 3) (S := S7 ++ [.dct true (prD P)]) (L := (k : Int)) ((ad.trans bd7).well hi).app (by omega) (by omega)
    obtain ⟨S8, rfl, bd8⟩ := ad8.app (by rw [hlen7]; exact hi)
    have hlen8 : S8.length = S.length := by rw [bd8.len, hlen7]
    obtain ⟨b, rfl⟩ : ∃ q : Nat, r2 = q := ⟨r2.toNat, by omega⟩
    have g0 : (S8 ++ [MO.dct true (prD P)])[S.length]? = some (.dct true (prD P)) := by rw [← hlen8]; exact st_get0
    have hs := setIS_pr (q := (min a b, max a b)) g0 (by have := hP.len; omega)
    rw [← hlen8, st_set0, hlen8] at hs
    have p1 : exT (callN FN none (n + 4)) none (.par [10, 11] (.cons (.call 2 (.cons (.v 0) (.cons (.v 3) .nil))) (.cons (.call 2 (.cons (.v 0) (.cons (.v 3) .nil))) .nil))) (wbE i l m (some (.d (.int (k : Int)))) (some (.d (encL ps))) (some (.ref S.length)) x (some (.d (.int (j : Int)))) none none o w) (S6 ++ [.dct true (prD P)]) = some ((.nx, wbE i l m (some (.d (.int (k : Int)))) (some (.d (encL ps))) (some (.ref S.length)) x (some (.d (.int (j : Int)))) none none (some (.d (.int (a : Int)))) (some (.d (.int (b : Int))))), S8 ++ [.dct true (prD P)]) := by
      unfold wbE
      simp [e7, e8]
    have t1 : evE (callN FN none (n + 4)) (.and (.cmp .NotEq (.v 10) (.v 11)) (.cmp .Lt (.bi .len (.cons (.v 5) .nil)) (.k (.int 9)))) (wbE i l m (some (.d (.int (k : Int)))) (some (.d (encL ps))) (some (.ref S.length)) x (some (.d (.int (j : Int)))) none none (some (.d (.int (a : Int)))) (some (.d (.int (b : Int))))) (S8 ++ [.dct true (prD P)]) = some (.d (.bool (decide (a ≠ b) && decide (P.length < 9))), S8 ++ [.dct true (prD P)]) := by
      have hb : biWW .len [.ref S.length] (S8 ++ [.dct true (prD P)]) = some (.d (.int P.length), S8 ++ [.dct true (prD P)]) := by
        rw [biWW_r (rd_dct g0), bi_lenM, len_pr]; rfl
      have d1 : decide ((a : Int) ≠ (b : Int)) = decide (a ≠ b) := decide_eq_decide.mpr (by omega)
      have d2 : decide ((P.length : Int) < 9) = decide (P.length < 9) := decide_eq_decide.mpr (by omega)
      have c1 : cmpW .NotEq (S8 ++ [.dct true (prD P)]) (.d (.int (a : Int))) (.d (.int (b : Int))) = some (decide (a ≠ b)) := by rw [cmpW_d, ne_int, d1]
      have c2 : cmpW .Lt (S8 ++ [.dct true (prD P)]) (.d (.int (P.length : Int))) (.d (.int 9)) = some (decide (P.length < 9)) := by rw [cmpW_d, lt_int, d2]
      unfold wbE
      simp only [ev_and, ev_cmp, ev_v, ev_bi, ev_cons, ev_nil, ev_k, slot_0, slot_s, Option.map_some, bd_some, c1]
      cases decide (a ≠ b) with
      | false => rfl
      | true => rw [andW_t, hb, bd_some, c2]; rfl
    by_cases q : (decide (a ≠ b) && decide (P.length < 9)) = true
    · have q' := q
      rw [Bool.and_eq_true, decide_eq_true_eq, decide_eq_true_eq] at q'
      refine ⟨wbE i l m (some (.d (.int (k : Int)))) (some (.d (encL ps))) (some (.ref S.length)) x (some (.d (.int (j : Int)))) none none o w, wbE i l m (some (.d (.int (k : Int)))) (some (.d (encL ps))) (some (.ref S.length)) x (some (.d (.int (j : Int)))) none none (some (.d (.int (a : Int)))) (some (.d (.int (b : Int)))), S8 ++ [.dct true (prD (insP P (min a b, max a b)))], by unfold wbE; simp, ?_, insP P (min a b, max a b), S8, _, _, _, rfl, rfl, (ad.trans bd7).trans bd8, ⟨insP_nd hP.nd, fun p hp => ?_, fun c hc1 hc2 => ?_, ?_⟩⟩
      · have tu : evE (callN FN none (n + 4)) (.tup (.cons (.bi .min (.cons (.v 10) (.cons (.v 11) .nil))) (.cons (.bi .max (.cons (.v 10) (.cons (.v 11) .nil))) .nil))) (wbE i l m (some (.d (.int (k : Int)))) (some (.d (encL ps))) (some (.ref S.length)) x (some (.d (.int (j : Int)))) none none (some (.d (.int (a : Int)))) (some (.d (.int (b : Int))))) (S8 ++ [.dct true (prD P)]) = some (.d (pkD (min a b, max a b)), S8 ++ [.dct true (prD P)]) := by
          unfold wbE
          simp only [ev_tup, ev_cons, ev_bi, ev_v, ev_nil, slot_0, slot_s, Option.map_some, bd_some, biWW_2, min_ii, max_ii, pds_cons, pds_nil, ob_some]
          rw [if_pos limT2]
          rfl
        have v5 : evE (callN FN none (n + 4)) (.v 5) (wbE i l m (some (.d (.int (k : Int)))) (some (.d (encL ps))) (some (.ref S.length)) x (some (.d (.int (j : Int)))) none none (some (.d (.int (a : Int)))) (some (.d (.int (b : Int))))) (S8 ++ [.dct true (prD P)]) = some (.ref S.length, S8 ++ [.dct true (prD P)]) := by unfold wbE; simp
        rw [ex_cons, p1, bd_some, seqE_nx, ex_cons, ex_ite, t1, q, tb_b, bd_some, iteW_t, ex_cons, ex_setI, ev_k, bd_some, v5, bd_some, tu, bd_some, setIW_r, pd_d, ob_some, pd_d, ob_some, hs, ob_some, bd_some, seqE_nx, ex_nil, bd_some, seqE_nx, ex_nil]
      · rcases insP_mem.mp hp with hp | rfl
        · exact hP.lt p hp
        · constructor
          · show min a b < max a b; omega
          · show max a b < k; omega
      · obtain ⟨b', hb1, hb2⟩ := hP.tr c hc1 hc2
        exact ⟨b', hb1, insP_mem.mpr (.inl hb2)⟩
      · have := insP_len (P := P) (min a b, max a b); omega
    · have q' : (decide (a ≠ b) && decide (P.length < 9)) = false := by simpa using q
      refine ⟨wbE i l m (some (.d (.int (k : Int)))) (some (.d (encL ps))) (some (.ref S.length)) x (some (.d (.int (j : Int)))) none none o w, wbE i l m (some (.d (.int (k : Int)))) (some (.d (encL ps))) (some (.ref S.length)) x (some (.d (.int (j : Int)))) none none (some (.d (.int (a : Int)))) (some (.d (.int (b : Int)))), S8 ++ [.dct true (prD P)], by unfold wbE; simp, ?_, P, S8, _, _, _, rfl, rfl, (ad.trans bd7).trans bd8, hP⟩
      rw [ex_cons, p1, bd_some, seqE_nx, ex_cons, ex_ite, t1, q', tb_b, bd_some, iteW_f, ex_nil, bd_some, seqE_nx, ex_nil]
  rintro e S3 ⟨P, S6, z, o, w, rfl, rfl, ad, hP⟩
  have hlen6 : S6.length = S.length := ad.len
  obtain ⟨ys, S7, e7, hys, ad7⟩ := shuf_ok B (n := n + 2) (S := S6 ++ [.dct true (prD P)]) f24 (xs := (List.range k).map fun j : Nat => PyData.int (j : Int)) (ad.well hi).app (by simp; omega)
  obtain ⟨S7, rfl, bd7⟩ := ad7.app (by rw [hlen6]; exact hi)
  have hlen7 : S7.length = S.length := by rw [bd7.len, hlen6]
  obtain ⟨os, rfl, hos⟩ := perm_of_map (fun j : Nat => PyData.int (j : Int)) hys
  refine Ends.step ⟨wbE i l m (some (.d (.int (k : Int)))) (some (.d (encL ps))) (some (.ref S.length)) x z (some (.d (.list (os.map fun j : Nat => PyData.int (j : Int))))) none o w, S7 ++ [.dct true (prD P)], ?_, ?_⟩
  · unfold wbE
    have hlr := listRange_n (m := k) (by omega)
    simp only [ex_asg, ev_call, ev_cons, ev_v, ev_bi, ev_nil, slot_0, slot_s, Option.map_some, bd_some, biWW_1, hlr, noClo_ref, noClo_d, noClo_nil, if_true]
    rw [e7]
    simp
  have g0 : (S7 ++ [MO.dct true (prD P)])[S.length]? = some (.dct true (prD P)) := by rw [← hlen7]; exact st_get0
  have hlc : evE (callN FN none (n + 4)) (.lc (.bi .tuple (.cons (.bi .sorted (.cons (.tup (.cons (.sub (.v 4) (.sub (.v 8) (.v 10))) (.cons (.sub (.v 4) (.sub (.v 8) (.v 11))) .nil))) .nil)) .nil)) (.mk (.tp [10, 11]) (.e (.bi .list (.cons (.v 5) .nil))) .no) [10, 11]) (wbE i l m (some (.d (.int (k : Int)))) (some (.d (encL ps))) (some (.ref S.length)) x z (some (.d (.list (os.map fun j : Nat => PyData.int (j : Int))))) none o w) (S7 ++ [.dct true (prD P)]) = some (.d (.list ((P.map (tieOf ps os)).map encT)), S7 ++ [.dct true (prD P)]) := by
    have hsub : ∀ a, a < k → ∀ S', subVV (.d (.list (os.map fun j : Nat => PyData.int (j : Int)))) (.d (.int (a : Int))) S' = some (.d (.int ((os.getD a 0 : Nat) : Int)), S') ∧ subVV (.d (encL ps)) (.d (.int ((os.getD a 0 : Nat) : Int))) S' = some (.d (.str (phi ps os a)), S') := fun a ha S' => by
      obtain ⟨x, hx, h1, h2⟩ := phi_at hpl hos ha
      have hg : os.getD a 0 = x := by rw [List.getD_eq_getElem?_getD, h1]; rfl
      constructor
      · rw [subWW_d, sub_l (x := .int (x : Int)) (by rw [List.getElem?_map, h1]; rfl), hg]; rfl
      · rw [subWW_d, hg]
        have : subD (encL ps) (.int (x : Int)) = some (.str (phi ps os a)) := sub_t (by rw [List.getElem?_map, h2]; rfl)
        rw [this]; rfl
    rw [ev_lcA pkD P (fun p => encT (tieOf ps os p)) (S1 := S7 ++ [.dct true (prD P)]) ?_ (Nat.le_trans hP.len (by decide)) fun p hp => ?_, List.map_map]
    · rfl
    · have hb : biWW .list [.ref S.length] (S7 ++ [.dct true (prD P)]) = some (.d (.list (P.map pkD)), S7 ++ [.dct true (prD P)]) := by
        rw [biWW_r (rd_dct g0), list_pr]; rfl
      unfold wbE
      simp only [ev_ie, ev_bi, ev_cons, ev_v, ev_nil, slot_0, slot_s, Option.map_some, bd_some, hb, itW'_l]
    · obtain ⟨h1, h2⟩ := hP.lt p hp
      obtain ⟨a1, a2⟩ := hsub p.1 (by omega) (S7 ++ [.dct true (prD P)])
      obtain ⟨b1, b2⟩ := hsub p.2 h2 (S7 ++ [.dct true (prD P)])
      have hne : phi ps os p.1 ≠ phi ps os p.2 := fun e => by have := phi_inj hps.nd hpl hos (by omega) h2 e; omega
      refine ⟨wbE i l m (some (.d (.int (k : Int)))) (some (.d (encL ps))) (some (.ref S.length)) x z (some (.d (.list (os.map fun j : Nat => PyData.int (j : Int))))) none (some (.d (.int (p.1 : Int)))) (some (.d (.int (p.2 : Int)))), by unfold wbE pkD; simp [wipe1], ?_⟩
      have so := sorted_two hne
      unfold wbE
      simp only [ev_bi, ev_cons, ev_tup, ev_sub, ev_v, ev_nil, slot_0, slot_s, Option.map_some, bd_some, a1, a2, b1, b2, pds_cons, pds_nil, ob_some]
      rw [if_pos limT2]
      simp only [bd_some, biWW_1, so, Option.map_some, tuple_l]
      unfold tieOf
      split <;> rfl
  refine Ends.step ⟨wbE i l m (some (.d (.int (k : Int)))) (some (.d (encL ps))) (some (.ref S.length)) x z (some (.d (.list (os.map fun j : Nat => PyData.int (j : Int))))) (some (.d (.list ((P.map (tieOf ps os)).map encT)))) o w, S7 ++ [.dct true (prD P)], ?_, ?_⟩
  · rw [ex_asg, hlc, bd_some]
    unfold wbE
    simp
  refine Ends.retP (w := .d (partsD ps (srt (P.map (tieOf ps os))))) (S1 := S7 ++ [.dct true (prD P)]) ?_ ⟨ps, srt (P.map (tieOf ps os)), S7, web_right hps hpl hos hP, by omega, by omega, ad.trans bd7, rfl, _, rfl⟩
  have so := sorted_tie (F := P.map (tieOf ps os)) (by rw [List.length_map]; exact Nat.le_trans hP.len (by decide))
  unfold wbE
  simp only [ev_tup, ev_cons, ev_bi, ev_v, ev_nil, slot_0, slot_s, Option.map_some, bd_some, biWW_1, so, tuple_l, pds_cons, pds_nil, ob_some]
  rw [if_pos limT2]
  rfl
end
end RW
set_option Elab.async false
set_option linter.all false
set_option maxRecDepth 100000
set_option maxHeartbeats 4000000
namespace RW
open PySem PySem.W
theorem slc16 (l : List D) : slcD (.list l) none (some (.int 16)) = some (.list (l.take (min 16 l.length))) := by
  show ob (some 0) (fun i' => ob (some (if (16 : Int) < 0 then ((16 : Int) + l.length).toNat else min (16 : Int).toNat l.length)) fun j => some (PyData.list (cutL l i' j))) = _
  rw [if_neg (by omega), ob_some, ob_some]
  rfl
theorem len_scr {l : List Int} {S : Sto} : biWW .len [.scr l] S = some (.d (.int l.length), S) := rfl
theorem sub_scr {l : List Int} {j : Nat} {S : Sto} (h : j < l.length) : subVV (.scr l) (.d (.int (j : Int))) S = some (.d (.int l[j]), S) := by
  show ob (ixD l.length (j : Int)) _ = _
  rw [ixD_nat h, ob_some, List.getElem?_eq_getElem h]
  rfl
theorem pow15 : binD .Pow (.int 10) (.int 15) = some (.int (10 ^ 15)) := by
  show (if decide ((0 : Int) ≤ 15 ∧ (15 : Int) ≤ 1000 ∧ (10 : Int).natAbs ≤ 1000) = true then some (PyData.int (10 ^ (15 : Int).toNat)) else none) = _
  rw [if_pos (by decide)]
  rfl
theorem bi_abs {i : Int} : biD .abs [.int i] = some (.int (if i < 0 then -i else i)) := rfl
theorem rd_scr_slc {l : List Int} {S : Sto} : rdS S (.scr l) = some (.list (l.map .int)) := rfl
theorem limT3 {x y z : D} : lim [x, y, z].length = true := by show lim 3 = true; decide
section
variable {FN : Nat → Option FnD} (B : FB FN) {S : Sto} {n : Nat}
include B
theorem well_ok {ns : List Int} {lap : Nat} : ∃ a b, callN FN none (n + 1) 1 [.scr ns, .d (.int (lap : Int))] S = some (.ref S.length, S ++ [wl a b 0]) ∧ 0 ≤ b ∧ b < 2147483587 := by
  suffices hs : Ends (callN FN none n) fd__law_well.body [some (.scr ns), some (.d (.int (lap : Int))), none, none, none] S (fun fl _ S2 => ∃ a b, fl = .rt (.ref S.length) ∧ S2 = S ++ [wl a b 0] ∧ 0 ≤ b ∧ b < 2147483587) by
    obtain ⟨fl, e', S2, q1, a, b, rfl, rfl, q2, q3⟩ := hs
    refine ⟨a, b, ?_, q2, q3⟩
    obtain ⟨y, S3, h1, rfl, rfl⟩ := call_endsE (FN := FN) (n := n) (S := S) (ws := [.scr ns, .d (.int (lap : Int))]) B.f1 rfl rfl rfl (P := fun fl _ S2 => fl = .rt (.ref S.length) ∧ S2 = S ++ [wl a b 0]) ⟨_, e', _, q1, rfl, rfl⟩ (fun y S3 => y = .ref S.length ∧ S3 = S ++ [wl a b 0]) (by
      rintro fl _ S2 ⟨rfl, rfl⟩
      exact ⟨_, .inr rfl, _, _, rfl, rfl, rfl⟩)
    exact h1
  have u1 : binD .Mult (.int 6121) (.int (lap : Int)) = some (.int (6121 * (lap : Int))) := mulI (by rw [bigOk_of (i := 6121) (by omega) (by omega)]; simp)
  have v1 : ∀ x, binD .Mod (.int x) (.int 2147483587) = some (.int (x % 2147483587)) := fun x => modI (by omega)
  have v2 : ∀ x, binD .Mod (.int x) (.int 2147483549) = some (.int (x % 2147483549)) := fun x => modI (by omega)
  have u2 : ∀ x : Int, binD .Mult (.int x) (.int 48271) = some (.int (x * 48271)) := fun x => mulI (by rw [bigOk_of (i := 48271) (by omega) (by omega)]; simp)
  have u3 : ∀ x : Int, binD .Mult (.int x) (.int 53) = some (.int (x * 53)) := fun x => mulI (by rw [bigOk_of (i := 53) (by omega) (by omega)]; simp)
  have u4 : ∀ x : Int, binD .Mult (.int x) (.int 15013) = some (.int (x * 15013)) := fun x => mulI (by rw [bigOk_of (i := 15013) (by omega) (by omega)]; simp)
  refine Ends.step ⟨[some (.scr ns), some (.d (.int (lap : Int))), some (.d (.int (704969 + 6121 * (lap : Int)))), none, none], S, by simp [u1], ?_⟩
  refine Ends.for PyData.int (ns.take (min 16 (ns.map PyData.int).length)) (fun r e S2 => S2 = S ∧ ∃ (c : Int) (x : Option W), e = [some (.scr ns), some (.d (.int (lap : Int))), some (.d (.int c)), x, none]) (S1 := S) ?_ ⟨rfl, _, none, rfl⟩ ?_ ?_
  · rw [ev_ie, ev_slc, ev_v, slot_0, Option.map_some, bd_some, ev_no, bd_some, ev_so, ev_k, bd_some, soW_i, bd_some, rd_scr_slc, ob_some, slc16, ← List.map_take]
    rfl
  · rintro c r e S2 ⟨rfl, d, x, rfl⟩
    refine ⟨[some (.scr ns), some (.d (.int (lap : Int))), some (.d (.int d)), some (.d (.int c)), none], [some (.scr ns), some (.d (.int (lap : Int))), some (.d (.int ((d * 48271 + c % 2147483549 + 23) % 2147483587))), some (.d (.int c)), none], S2, by simp, ?_, rfl, _, _, rfl⟩
    rw [ex_cons]
    simp only [ex_asg, ev_bin, ev_bi, ev_cons, ev_nil, ev_v, ev_k, slot_0, slot_s, Option.map_some, bd_some, rd_d, ob_some, u2, v2, addI, biWW_1, bi_int, v1, asgT_nm, asg1_s, asg1_0, seqE_nx, ex_nil]
  · rintro e S2 ⟨rfl, c, x, rfl⟩
    obtain ⟨o, ho⟩ : ∃ o : Int, evE (callN FN none n) (.ite (.cmp .Lt (.v 1) (.bi .len (.cons (.v 0) .nil))) (.bi .int (.cons (.sub (.v 0) (.v 1)) .nil)) (.k (.int 0))) [some (.scr ns), some (.d (.int (lap : Int))), some (.d (.int c)), x, none] S2 = some (.d (.int o), S2) := by
      have hc : evE (callN FN none n) (.cmp .Lt (.v 1) (.bi .len (.cons (.v 0) .nil))) [some (.scr ns), some (.d (.int (lap : Int))), some (.d (.int c)), x, none] S2 = some (.d (.bool (decide ((lap : Int) < (ns.length : Int)))), S2) := by
        simp only [ev_cmp, ev_v, ev_bi, ev_cons, ev_nil, slot_0, slot_s, Option.map_some, bd_some, len_scr, cmpW_d, lt_int]
      rw [ev_ite, hc, tb_b, bd_some]
      by_cases q : lap < ns.length
      · rw [decide_eq_true (by omega : (lap : Int) < (ns.length : Int)), iteW_t]
        refine ⟨ns[lap], ?_⟩
        simp only [ev_bi, ev_cons, ev_sub, ev_v, ev_nil, slot_0, slot_s, Option.map_some, bd_some, sub_scr q, biWW_1, bi_int]
      · rw [decide_eq_false (by omega : ¬ (lap : Int) < (ns.length : Int)), iteW_f]
        exact ⟨0, by rw [ev_k]⟩
    refine Ends.step ⟨[some (.scr ns), some (.d (.int (lap : Int))), some (.d (.int c)), x, some (.d (.int o))], S2, by rw [ex_asg, ho, bd_some]; simp, ?_⟩
    refine Ends.step ⟨[some (.scr ns), some (.d (.int (lap : Int))), some (.d (.int ((c * 53 + o % 2147483549 * 15013 + 11) % 2147483587))), x, some (.d (.int o))], S2, ?_, ?_⟩
    · simp only [ex_asg, ev_bin, ev_bi, ev_cons, ev_nil, ev_v, ev_k, slot_0, slot_s, Option.map_some, bd_some, rd_d, ob_some, u3, v2, u4, addI, biWW_1, bi_int, v1, asgT_nm, asg1_s, asg1_0]
    generalize hb : (c * 53 + o % 2147483549 * 15013 + 11) % 2147483587 = b
    obtain ⟨a, ha⟩ : ∃ a : Int, evE (callN FN none n) (.ite (.or (.cmp .Lt (.v 4) (.k (.int 0))) (.cmp .GtE (.v 4) (.bin .Pow (.k (.int 10)) (.k (.int 15))))) (.bi .abs (.cons (.v 4) .nil)) (.k (.int 0))) [some (.scr ns), some (.d (.int (lap : Int))), some (.d (.int b)), x, some (.d (.int o))] S2 = some (.d (.int a), S2) := by
      have hc : evE (callN FN none n) (.or (.cmp .Lt (.v 4) (.k (.int 0))) (.cmp .GtE (.v 4) (.bin .Pow (.k (.int 10)) (.k (.int 15))))) [some (.scr ns), some (.d (.int (lap : Int))), some (.d (.int b)), x, some (.d (.int o))] S2 = some (.d (.bool (decide (o < 0) || decide (10 ^ 15 ≤ o))), S2) := by
        simp only [ev_or, ev_cmp, ev_v, ev_k, ev_bin, slot_0, slot_s, Option.map_some, bd_some, rd_d, ob_some, pow15, cmpW_d, lt_int, ge_int, orW_c]
      rw [ev_ite, hc, tb_b, bd_some]
      cases (decide (o < 0) || decide (10 ^ 15 ≤ o)) with
      | true =>
        rw [iteW_t]
        refine ⟨if o < 0 then -o else o, ?_⟩
        simp only [ev_bi, ev_cons, ev_v, ev_nil, slot_0, slot_s, Option.map_some, bd_some, biWW_1, bi_abs]
      | false =>
        rw [iteW_f]
        exact ⟨0, by rw [ev_k]⟩
    refine Ends.retP (w := .ref S2.length) (S1 := S2 ++ [wl a b 0]) ?_ ⟨a, b, rfl, rfl, by rw [← hb]; exact Int.emod_nonneg _ (by omega), by rw [← hb]; exact Int.emod_lt_of_pos _ (by omega)⟩
    rw [ev_own, ev_cons, ha, bd_some]
    simp only [ev_cons, ev_v, ev_k, ev_nil, slot_0, slot_s, Option.map_some, bd_some, pds_cons, pds_nil, ob_some]
    rw [if_pos limT3]
    rfl
end
theorem Adv.other {S S' : Sto} {i j : Nat} (h : Adv S S' i) (hj : Well S j) : Well S' j := by
  obtain ⟨a, b, c, rfl, h1, h2⟩ := h
  by_cases e : i = j
  · subst e
    exact ⟨a, b, c, by rw [List.getElem?_set_self hj.lt], h1, h2⟩
  · obtain ⟨a', b', c', e', h'⟩ := hj
    exact ⟨a', b', c', by rw [List.getElem?_set_ne e]; exact e', h'⟩
theorem prefs_map : ∀ l : List Nat, prefs (l.map .ref) = some l
  | [] => rfl
  | x :: l => by
    show (prefs (l.map .ref)).map _ = _
    rw [prefs_map l]; rfl
theorem mkL_refs {l : List Nat} (h : l ≠ []) (hl : l.length ≤ 1000) : mkL (l.map .ref) = some (.refs l) := by
  unfold mkL
  have : LIM = 16000000 := rfl
  rw [if_pos (by rw [List.length_map, lim, decide_eq_true_eq]; omega)]
  have e : pds (l.map W.ref) = none := by
    cases l with
    | nil => exact absurd rfl h
    | cons x l => rfl
  rw [e, prefs_map]
  rfl
theorem sub_refs {l : List Nat} {j : Nat} {S : Sto} (h : j < l.length) : subVV (.refs l) (.d (.int (j : Int))) S = some (.ref l[j], S) := by
  show ob (ixD l.length (j : Int)) _ = _
  rw [ixD_nat h, ob_some, List.getElem?_eq_getElem h]
  rfl
theorem len_refs {l : List Nat} {S : Sto} : biWW .len [.refs l] S = some (.d (.int l.length), S) := rfl
/-- the law's own frame: K looks at up to three wells -/
def lawBody (K : Int) : Ts := .cons (.asg (.nm 1) (.lc (.call 1 (.cons (.v 0) (.cons (.v 2) .nil))) (.mk (.nm 2) (.r1 (.bi .max (.cons (.k (.int 1)) (.cons (.bi .min (.cons (.bi .len (.cons (.v 0) .nil)) (.cons (.k (.int 3)) .nil))) .nil)))) .no) [2])) (.cons (.ret (.bi .all (.cons (.lc (.call 8 (.cons (.sub (.v 1) (.bin .Mod (.bi .int (.cons (.v 2) .nil)) (.bi .len (.cons (.v 1) .nil)))) .nil)) (.mk (.nm 2) (.r1 (.k (.int K))) .no) [2]) .nil))) .nil)
theorem law_frame {FN : Nat → Option FnD} (B : FB FN) {n K : Nat} {fd : FnD} (f9 : FN 9 = some fd) (hn : fd.nat = none) (hk : fd.keep = false) (hp : fd.np = 1) (hN : fd.N.length = 3) (hb : fd.body = lawBody (K : Int)) (hK : K ≤ 1000)
    (hr : ∀ S i, Well S i → ∃ S', callN FN none (n + 1) 8 [.ref i] S = some (.d (.bool true), S') ∧ Adv S S' i) (ns : List Int) (hns : ns.length ≤ 1000) : callN FN none (n + 2) 9 [.scr ns] [] = some (.d (.bool true), []) := by
  obtain ⟨M, hM, hM2⟩ : ∃ M : Nat, M = max 1 (min ns.length 3) ∧ 1 ≤ M := ⟨_, rfl, by omega⟩
  have hM3 : M ≤ 3 := by omega
  suffices hs : Ends (callN FN none (n + 1)) fd.body [some (.scr ns), none, none] [] (fun fl _ S2 => fl = .rt (.d (.bool true))) by
    obtain ⟨y, S3, h1, rfl, rfl⟩ := call_endsE (FN := FN) (n := n + 1) (S := []) (ws := [.scr ns]) f9 hn (by rw [hp]; rfl) (e0 := [some (.scr ns), none, none]) (by rw [hp, hN]; rfl) hs (fun y S3 => y = .d (.bool true) ∧ S3 = []) (by
      rintro fl _ S2 rfl
      exact ⟨_, .inr rfl, _, _, by rw [handBack_d hk]; rfl, rfl, rfl⟩)
    exact h1
  rw [hb]
  have e1 : evE (callN FN none (n + 1)) (.bi .max (.cons (.k (.int 1)) (.cons (.bi .min (.cons (.bi .len (.cons (.v 0) .nil)) (.cons (.k (.int 3)) .nil))) .nil))) [some (.scr ns), none, none] [] = some (.d (.int (M : Int)), []) := by
    have m1 := min_ii ns.length 3
    have m2 := max_ii 1 (min ns.length 3)
    simp only [ev_bi, ev_cons, ev_k, ev_v, ev_nil, slot_0, Option.map_some, bd_some, len_scr, biWW_2]
    rw [show (3 : Int) = ((3 : Nat) : Int) from rfl, m1, Option.map_some, bd_some, bd_some, bd_some, biWW_2, show (1 : Int) = ((1 : Nat) : Int) from rfl, m2, hM]
    rfl
  obtain ⟨ws, S1, ⟨hl, hws⟩, e2⟩ := ev_lcI (call := callN FN none (n + 1)) (elt := .call 1 (.cons (.v 0) (.cons (.v 2) .nil))) (t := .nm 2) (it := .r1 (.bi .max (.cons (.k (.int 1)) (.cons (.bi .min (.cons (.bi .len (.cons (.v 0) .nil)) (.cons (.k (.int 3)) .nil))) .nil)))) (own := [2]) (e := [some (.scr ns), none, none]) (S := []) (fun k : Nat => PyData.int (k : Int)) (List.range M)
    (fun r ws S => (∃ l : List Nat, ws = l.map .ref ∧ l.length + r.length = M ∧ ∀ j ∈ l, Well S j) ∧ True) (S1 := []) (rng_ev (by omega) e1) ⟨⟨[], rfl, by simp, by simp⟩, trivial⟩ (by
      rintro k r ws S ⟨⟨l, rfl, hl, hw⟩, -⟩
      obtain ⟨a, b, q1, q2, q3⟩ := well_ok B (n := n) (S := S) (ns := ns) (lap := k)
      refine ⟨[some (.scr ns), none, some (.d (.int (k : Int)))], .ref S.length, S ++ [wl a b 0], rfl, ?_, ⟨l ++ [S.length], by simp, by simp at hl ⊢; omega, fun j hj => ?_⟩, trivial⟩
      · rw [ev_call, ev_cons, ev_v, slot_0, Option.map_some, bd_some, ev_cons, ev_v]
        simp only [slot_0, slot_s, Option.map_some, bd_some, ev_nil, noClo_scr, noClo_d, noClo_nil, if_true]
        exact q1
      · rcases List.mem_append.mp hj with hj | hj
        · exact (hw j hj).app
        · simp at hj
          subst hj
          exact ⟨a, b, 0, st_get0, q2, q3⟩)
  obtain ⟨l, rfl, hl, hw⟩ := hl
  simp at hl
  have hne : l ≠ [] := fun z => by subst z; simp at hl; omega
  rw [mkL_refs hne (by omega)] at e2
  refine Ends.step ⟨[some (.scr ns), some (.refs l), none], S1, by rw [ex_asg, e2]; rfl, ?_⟩
  obtain ⟨ws2, S2, ⟨L, rfl, hL⟩, e3⟩ := ev_lcI (call := callN FN none (n + 1)) (elt := .call 8 (.cons (.sub (.v 1) (.bin .Mod (.bi .int (.cons (.v 2) .nil)) (.bi .len (.cons (.v 1) .nil)))) .nil)) (t := .nm 2) (it := .r1 (.k (.int (K : Int)))) (own := [2]) (e := [some (.scr ns), some (.refs l), none]) (S := S1) (fun k : Nat => PyData.int (k : Int)) (List.range K)
    (fun r ws S => ∃ L : Nat, ws = (List.replicate L true).map (fun b => .d (.bool b)) ∧ (L + r.length = K ∧ ∀ j ∈ l, Well S j)) (S1 := S1) (rng_ev (by omega) (by rw [ev_k])) ⟨0, rfl, by simp, hw⟩ (by
      rintro k r ws S ⟨L, rfl, hL, hw⟩
      have hkl : k % l.length < l.length := Nat.mod_lt _ (by omega)
      obtain ⟨S', q1, q2⟩ := hr S l[k % l.length] (hw _ (List.getElem_mem hkl))
      refine ⟨[some (.scr ns), some (.refs l), some (.d (.int (k : Int)))], .d (.bool true), S', rfl, ?_, L + 1, ?_, by simp at hL ⊢; omega, fun j hj => q2.other (hw j hj)⟩
      · have hmod : binD .Mod (.int (k : Int)) (.int (l.length : Int)) = some (.int ((k % l.length : Nat) : Int)) := by
          rw [modI (by omega)]
          congr 2
        rw [ev_call, ev_cons, ev_sub, ev_v]
        simp only [slot_0, slot_s, Option.map_some, bd_some, ev_bin, ev_bi, ev_cons, ev_v, ev_nil, biWW_1, bi_int, len_refs, rd_d, ob_some, hmod, sub_refs hkl, noClo_ref, noClo_nil, if_true]
        exact q1
      · rw [List.replicate_succ']; simp)
  rw [mkL_d _ PyData.bool (by have : LIM = 16000000 := rfl; simp at hL ⊢; omega)] at e3
  refine Ends.retP (w := .d (.bool true)) (S1 := S2) ?_ rfl
  rw [ev_bi, ev_cons, e3, Option.map_some, bd_some, ev_nil, bd_some, bd_some, biWW_1, bAll_map]
  simp
end RW
set_option Elab.async false
set_option linter.all false
set_option maxRecDepth 100000
set_option maxHeartbeats 4000000
namespace RW
open PySem PySem.W
/-! pairs -/
def prs (ps : List Str) : List (Str × Str) := (List.range ps.length).flatMap fun k => (ps.drop (k + 1)).map fun o => (ps.getD k Str.empty, o)
theorem prs_mem {ps : List Str} (nd : ps.Nodup) {p : Str × Str} (h : p ∈ prs ps) : p.1 ∈ ps ∧ p.2 ∈ ps ∧ p.1 ≠ p.2 := by
  obtain ⟨k, hk, h⟩ := List.mem_flatMap.mp h
  obtain ⟨o, ho, rfl⟩ := List.mem_map.mp h
  rw [List.mem_range] at hk
  have e : ps.getD k Str.empty = ps[k] := by rw [List.getD_eq_getElem?_getD, List.getElem?_eq_getElem hk]; rfl
  refine ⟨by show ps.getD k Str.empty ∈ ps; rw [e]; exact List.getElem_mem hk, List.mem_of_mem_drop ho, ?_⟩
  show ps.getD k Str.empty ≠ o
  rw [e]
  intro z
  rw [← z] at ho
  obtain ⟨j, hj, e2⟩ := List.getElem_of_mem ho
  rw [List.getElem_drop] at e2
  have := (List.getElem_inj nd).mp e2
  omega
theorem prs_len {ps : List Str} (h : ps.length ≤ 6) : (prs ps).length ≤ 36 := by
  unfold prs
  rw [List.length_flatMap]
  have : ∀ l : List Nat, (l.map fun k => ((ps.drop (k + 1)).map fun o => (ps.getD k Str.empty, o)).length).sum ≤ l.length * 6 := fun l => by
    induction l with
    | nil => simp
    | cons x l ih => simp only [List.map_cons, List.sum_cons, List.length_map, List.length_drop, List.length_cons] at ih ⊢; omega
  have := this (List.range ps.length)
  rw [List.length_range] at this
  omega
theorem prs_pos {ps : List Str} (h : 2 ≤ ps.length) : 0 < (prs ps).length := by
  match ps, h with
  | a :: b :: r, _ =>
    have : (a, b) ∈ prs (a :: b :: r) := by
      unfold prs
      rw [List.mem_flatMap]
      exact ⟨0, by simp, by simp⟩
    exact List.length_pos_of_mem this
theorem sorted_ways {g : List (List Str)} (hl : g.length ≤ LIM) (hne : ∀ w ∈ g, w ≠ []) : biD .sorted [.list (g.map encL)] = some (.list ((srtK Tup.mk g).map encL)) ∧ biD .sorted [.tuple (g.map encL)] = some (.list ((srtK Tup.mk g).map encL)) := by
  have e1 : g.map encL = (g.map Tup.mk).map Datum.toD := by rw [List.map_map]; rfl
  have ok : sortOk (g.map encL) = true := by
    rw [e1]
    refine sortOk_of (g.map Tup.mk) (by decide) (by rw [List.length_map]; exact hl) (.inl fun t ht => ?_)
    obtain ⟨w, hw, rfl⟩ := List.mem_map.mp ht
    have := hne w hw
    cases w with
    | nil => exact absurd rfl this
    | cons x r => rfl
  have es : sortD (g.map encL) = (srtK Tup.mk g).map encL := by
    rw [e1, sortD_map]
    unfold srt srtK
    rw [List.map_mergeSort (f := encL) (s := fun x y => !dataLt y x) fun u _ v _ => ?_, List.map_mergeSort (f := Datum.toD) (s := fun x y => !dataLt y x) fun u _ v _ => ?_, List.map_map]
    · rfl
    · unfold dle; rw [← DatumOrd.lt_eq]; rfl
    · unfold dle; rw [← DatumOrd.lt_eq]; rfl
  constructor
  · show (if sortOk (g.map encL) then some (PyData.list (sortD (g.map encL))) else none) = _
    rw [if_pos ok, es]
  · show (if sortOk (g.map encL) then some (PyData.list (sortD (g.map encL))) else none) = _
    rw [if_pos ok, es]
theorem Tup_inj (a b : List Str) (h : Tup.mk a = Tup.mk b) : a = b := congrArg Tup.items h
section
variable {ps : List Str} {ts : List (Str × Str)} {a b : Str}
theorem ways_mem (h : okWeb ps ts) (ha : a ∈ ps) {w : List Str} : w ∈ ways ts ps.length a b ↔ IsW ts a b w := by
  unfold ways
  rw [srtK_mem]
  exact wsF_isW h.ti.ne ha
theorem okTies.nd (h : okTies ps ts) : ts.Nodup := h.2.2.2.imp fun {x y} q e => by
  subst e
  have : DatumOrd.lt x x = true := q
  rw [dlt_irrefl] at this; cases this
theorem ways_nodup (h : okWeb ps ts) (ha : a ∈ ps) : (ways ts ps.length a b).Nodup := by
  unfold ways
  rw [srtK_nodup]
  exact wsF_nodup h.ti.ne (fun p => nb_nodup h.ti.ne h.ti.nd (fun t ht => (h.ti.2.2.1 t ht).2.2) p) _ _ (one_pth h.ti.ne ha) rfl
theorem ways_len (h : okWeb ps ts) (ha : a ∈ ps) : (ways ts ps.length a b).length ≤ 100000 := by
  unfold ways
  rw [srtK_len]
  refine Nat.le_trans (comp_len _ _) (Nat.le_trans (siz_le h.ti.2.1 _ _) ?_)
  have := h.pl.2.1
  have h1 := h.pl.1
  exact Nat.le_trans (Nat.pow_le_pow_right (by omega) (show ps.length - [a].length ≤ 5 by simp; omega)) (by decide)
theorem IsW.rev {w : List Str} (h : IsW ts a b w) : IsW ts b a w.reverse := by
  refine ⟨by rw [List.head?_reverse]; exact h.la, by rw [List.getLast?_reverse]; exact h.hd, ?_, chn_rev (fun _ _ => adj.symm) h.ch⟩
  exact (List.reverse_perm w).nodup_iff.mpr h.nd
theorem IsW.sub (h : okWeb ps ts) (ha : a ∈ ps) {w : List Str} (hw : IsW ts a b w) : ∀ x ∈ w, x ∈ ps := by
  have key : ∀ (r v : List Str), v ≠ [] → (∀ x ∈ v, x ∈ ps) → chn (adj ts) (v ++ r) → ∀ x ∈ v ++ r, x ∈ ps := by
    intro r
    induction r with
    | nil => intro v _ h1 _ x hx; rw [List.append_nil] at hx; exact h1 x hx
    | cons c r ih =>
      intro v hv h1 h2 x hx
      have e : v ++ c :: r = (v ++ [c]) ++ r := by simp
      rw [e] at h2 hx
      refine ih (v ++ [c]) (by simp) (fun y hy => ?_) h2 x hx
      rcases List.mem_append.mp hy with hy | hy
      · exact h1 y hy
      · simp at hy
        subst hy
        have h3 := (chn_snoc.mp (chn_left h2)).2
        cases q : v.getLast? with
        | none => exact absurd (List.getLast?_eq_none_iff.mp q) hv
        | some z =>
          rcases h3 z q with k | k
          · exact (h.ti.ne _ k).2.1
          · exact (h.ti.ne _ k).1
  cases w with
  | nil => simp
  | cons c r =>
    have := hw.hd
    simp at this
    subst this
    exact key r [c] (by simp) (by simpa using ha) hw.ch
theorem ways_rev (h : okWeb ps ts) (ha : a ∈ ps) (hb : b ∈ ps) : ((ways ts ps.length b a).map List.reverse).Perm (ways ts ps.length a b) := by
  have nd1 : ((ways ts ps.length b a).map List.reverse).Nodup := by
    unfold List.Nodup
    rw [List.pairwise_map]
    exact (ways_nodup h hb).imp fun q e => q (by simpa using congrArg List.reverse e)
  refine (List.perm_ext_iff_of_nodup nd1 (ways_nodup h ha)).mpr fun w => ?_
  rw [List.mem_map, ways_mem h ha]
  constructor
  · rintro ⟨v, hv, rfl⟩
    exact ((ways_mem h hb).mp hv).rev
  · intro hw
    exact ⟨w.reverse, (ways_mem h hb).mpr hw.rev, by simp⟩
theorem ways_ne (h : okWeb ps ts) (ha : a ∈ ps) : ∀ w ∈ ways ts ps.length a b, w ≠ [] := fun w hw e => by
  have := ((ways_mem h ha).mp hw).hd
  rw [e] at this; cases this
theorem ways_wlen (h : okWeb ps ts) (ha : a ∈ ps) : ∀ w ∈ ways ts ps.length a b, w.length ≤ 100000 := fun w hw => by
  have hw := (ways_mem h ha).mp hw
  have := nodup_len hw.nd (IsW.sub h ha hw)
  have := h.pl.2.1
  omega
end
/-- all ways as Python has them -/
def wayD (ps : List Str) (ts : List (Str × Str)) (a b : Str) : D := .tuple ((ways ts ps.length a b).map encL)
theorem shd_ways {ps : List Str} {ts : List (Str × Str)} {a b : Str} (h : okWeb ps ts) (ha : a ∈ ps) : Shd 2 (wayD ps ts a b) := shd_Ls (ways_len h ha) (ways_wlen h ha)
section
variable {FN : Nat → Option FnD} (F : FW FN) {S : Sto} {n : Nat} {ps : List Str} {ts : List (Str × Str)}
include F
theorem pairs_ok (f33 : FN 33 = some fd__law_pairs) (hp : ps.length ≤ 6) : callN FN none (n + 1) 33 [.d (encL ps)] S = some (.d (.list ((prs ps).map encT)), S) := by
  refine call_rt' f33 rfl rfl rfl [some (.d (encL ps)), none, none, none] rfl ?_
  have hl : lenD (encL ps) = some ps.length := by unfold encL; rw [len_t, List.length_map]
  refine Ends.step ⟨[some (.d (encL ps)), some (.d (.list [])), none, none], S, by simp [lim, LIM], ?_⟩
  refine Ends.for (fun k : Nat => PyData.int (k : Int)) (List.range ps.length) (fun r e S' => S' = S ∧ ∃ (t : Nat) (x y : Option W), r = (List.range ps.length).drop t ∧ t ≤ ps.length ∧ e = [some (.d (encL ps)), some (.d (.list ((((List.range ps.length).take t).flatMap fun k => (ps.drop (k + 1)).map fun o => (ps.getD k Str.empty, o)).map encT))), x, y]) (S1 := S) (rng_ev (by omega) (by simp [hl])) ⟨rfl, 0, none, none, rfl, by omega, rfl⟩ ?_ ?_
  · rintro k r e S' ⟨rfl, t, x, y, hr, ht, rfl⟩
    obtain ⟨r', hr', hk⟩ := range_cons ps.length t ht
    rw [← hr'] at hr
    obtain ⟨rfl, hr2⟩ := hk k r hr.symm
    have hkl : k < ps.length := by
      have := congrArg List.length (hr'.symm.trans hr.symm)
      simp at this
      omega
    have htk : (List.range ps.length).take (k + 1) = (List.range ps.length).take k ++ [k] := by
      rw [List.take_add_one, List.getElem?_range hkl]; rfl
    generalize hA : ((((List.range ps.length).take k).flatMap fun k => (ps.drop (k + 1)).map fun o => (ps.getD k Str.empty, o)).map encT) = A
    have hAl : A.length ≤ 36 := by
      have h1 := prs_len hp
      unfold prs at h1
      rw [← hA, List.length_map]
      have e := List.take_append_drop k (List.range ps.length)
      rw [← e, List.flatMap_append, List.length_append] at h1
      have h2 : ((List.range ps.length).take k ++ (List.range ps.length).drop k).take k = (List.range ps.length).take k := by rw [e]
      omega
    refine ⟨[some (.d (encL ps)), some (.d (.list A)), some (.d (.int (k : Int))), y], [some (.d (encL ps)), some (.d (.list (A ++ ((ps.drop (k + 1)).map fun o => encT (ps.getD k Str.empty, o))))), some (.d (.int (k : Int))), y], S', by simp, ?_, rfl, k + 1, some (.d (.int (k : Int))), y, hr2, by omega, ?_⟩
    · have hlc : evE (callN FN none n) (.lc (.tup (.cons (.sub (.v 0) (.v 2)) (.cons (.v 3) .nil))) (.mk (.nm 3) (.e (.slc (.v 0) (.so (.bin .Add (.v 2) (.k (.int 1)))) .no)) .no) [3]) [some (.d (encL ps)), some (.d (.list A)), some (.d (.int (k : Int))), y] S' = some (.d (.list ((ps.drop (k + 1)).map fun o => encT (ps.getD k Str.empty, o))), S') := by
        have hg : ps[k]? = some (ps.getD k Str.empty) := by rw [List.getD_eq_getElem?_getD, List.getElem?_eq_getElem hkl]; rfl
        have hsub : subD (encL ps) (.int (k : Int)) = some (.str (ps.getD k Str.empty)) := sub_t (by rw [List.getElem?_map, hg]; rfl)
        have hslc : slcD (encL ps) (some (.int ((k : Int) + 1))) none = some (.tuple ((ps.drop (k + 1)).map .str)) := by
          have := slc_drop (ps.map PyData.str) (k + 1)
          rw [show ((k + 1 : Nat) : Int) = (k : Int) + 1 by omega, ← List.map_drop] at this
          exact this
        rw [ev_lcA PyData.str (ps.drop (k + 1)) (fun o => encT (ps.getD k Str.empty, o)) (S1 := S') ?_ ?_ fun o ho => ⟨[some (.d (encL ps)), some (.d (.list A)), some (.d (.int (k : Int))), some (.d (.str o))], rfl, ?_⟩]
        · simp only [ev_ie, ev_slc, ev_v, ev_so, ev_bin, ev_k, ev_no, slot_0, slot_s, Option.map_some, bd_some, rd_d, ob_some, addI, soW_i, rdS_d, hslc, itW'_t]
        · rw [List.length_drop]; have : LIM = 16000000 := rfl; omega
        · simp only [ev_tup, ev_cons, ev_sub, ev_v, ev_nil, slot_0, slot_s, Option.map_some, bd_some, subWW_d, hsub, pds_cons, pds_nil, ob_some]
          rw [if_pos limT2]
          rfl
      have hadd : binD .Add (.list A) (.list ((ps.drop (k + 1)).map fun o => encT (ps.getD k Str.empty, o))) = some (.list (A ++ (ps.drop (k + 1)).map fun o => encT (ps.getD k Str.empty, o))) := by
        show (if lim (A.length + ((ps.drop (k + 1)).map fun o => encT (ps.getD k Str.empty, o)).length) then some (PyData.list (A ++ (ps.drop (k + 1)).map fun o => encT (ps.getD k Str.empty, o))) else none) = _
        rw [if_pos]
        rw [List.length_map, List.length_drop, lim, decide_eq_true_eq]; have : LIM = 16000000 := rfl; omega
      rw [ex_cons, ex_asg, ev_bin, ev_v]
      simp only [slot_0, slot_s, Option.map_some, bd_some]
      rw [hlc, bd_some, rd_d, ob_some, rd_d, ob_some, hadd]
      simp [ex_nil]
    · rw [htk, List.flatMap_append, List.map_append, hA]
      simp [List.map_map, Function.comp_def]
  · rintro e S' ⟨rfl, t, x, y, hr, ht, rfl⟩
    have htm : t = ps.length := by
      have := congrArg List.length hr
      simp at this
      omega
    subst htm
    refine Ends.retX ?_
    rw [List.take_of_length_le (by simp)]
    simp [prs]
end
/-- the defs that k04's law needs beside -/
structure F04 (FN : Nat → Option FnD) : Prop extends FW FN where
  f27 : FN 27 = some fd__law_names_k03
  f33 : FN 33 = some fd__law_pairs
  f38 : FN 38 = some fd_check_place
  f39 : FN 39 = some fd_check_two
  f40 : FN 40 = some fd_all_ways
section
variable {FN : Nat → Option FnD} (F : FW FN) {S : Sto} {n i : Nat} {ps : List Str} {ts : List (Str × Str)} {a b : Str}
include F
theorem check_place_ok (f38 : FN 38 = some fd_check_place) (ha : a ∈ ps) : callN FN none (n + 2) 38 [.d (webD ps ts), .d (.str a)] S = some (.d .none, S) := by
  refine call_nx' f38 rfl rfl rfl _ rfl ?_
  have e1 := fun S => check_web_ok F (n := n) (ps := ps) (ts := ts) (S := S)
  have e2 := fun S => is_one_of_ok F.toFB (n := n) (x := a) (l := ps) (S := S)
  refine Ends.step ⟨_, S, by simp [e1]; rfl, ?_⟩
  refine Ends.step ⟨_, S, by simp [e2, ha, ex_nil]; rfl, ?_⟩
  exact Ends.nil ⟨rfl, List.take_length⟩
theorem check_two_ok (f38 : FN 38 = some fd_check_place) (f39 : FN 39 = some fd_check_two) (ha : a ∈ ps) (hb : b ∈ ps) (hab : a ≠ b) : callN FN none (n + 3) 39 [.d (webD ps ts), .d (.str a), .d (.str b)] S = some (.d .none, S) := by
  refine call_nx' f39 rfl rfl rfl _ rfl ?_
  have e1 := fun S => check_place_ok F f38 (n := n) (ps := ps) (ts := ts) (S := S) ha
  have e2 := fun S => check_place_ok F f38 (n := n) (ps := ps) (ts := ts) (S := S) hb
  refine Ends.step ⟨_, S, by simp [e1]; rfl, ?_⟩
  refine Ends.step ⟨_, S, by simp [e2]; rfl, ?_⟩
  refine Ends.step ⟨_, S, by simp [cmpW_d, hab, ex_nil]; rfl, ?_⟩
  exact Ends.nil ⟨rfl, List.take_length⟩
theorem all_ways_ok (f38 : FN 38 = some fd_check_place) (f39 : FN 39 = some fd_check_two) (f40 : FN 40 = some fd_all_ways) (h : okWeb ps ts) (ha : a ∈ ps) (hb : b ∈ ps) (hab : a ≠ b) : callN FN none (n + 4) 40 [.d (webD ps ts), .d (.str a), .d (.str b)] S = some (.d (wayD ps ts a b), S) := by
  refine call_rt' f40 rfl rfl rfl _ rfl ?_
  have e1 := fun S => check_two_ok F f38 f39 (n := n) (ps := ps) (ts := ts) (S := S) ha hb hab
  have e2 := fun S => ways_between_ok F (n := n + 1) (S := S) h (b := b) ha
  refine Ends.step ⟨_, S, by simp [e1]; rfl, ?_⟩
  refine Ends.retX ?_
  simp [e2, tuple_l]
  rfl
theorem law_ways_tup (h : okWeb ps ts) (ha : a ∈ ps) (hab : a ≠ b) {e : Env1} {x y z : E} (hx : evE (callN FN none (n + 2)) x e S = some (.d (partsD ps ts), S)) (hy : evE (callN FN none (n + 2)) y e S = some (.d (.str a), S)) (hz : evE (callN FN none (n + 2)) z e S = some (.d (.str b), S)) :
    evE (callN FN none (n + 2)) (.bi .tuple (.cons (.call 31 (.cons x (.cons y (.cons z .nil)))) .nil)) e S = some (.d (wayD ps ts a b), S) := by
  have := law_ways_ok F (n := n) (S := S) h ha hab
  simp [hx, hy, hz, this, tuple_l]
  rfl
/-- a pair drawn -/
theorem pair_drawn (hps : okPlaces ps) (hw : Well S i) : ∃ p S', callN FN none (n + 2) 23 [.ref i, .d (.list ((prs ps).map encT))] S = some (.d (encT p), S') ∧ p ∈ prs ps ∧ Adv S S' i := by
  have h2 := prs_len hps.2.1
  obtain ⟨y, S', e, ⟨p, rfl, hp⟩, ad⟩ := of_ok F.toFB (n := n) (S := S) (i := i) (x := .list ((prs ps).map encT)) (N := (prs ps).length) (P := fun y => ∃ p, y = encT p ∧ p ∈ prs ps) hw (by rw [len_l, List.length_map]) (prs_pos hps.1) (by omega) (fun k hk => ⟨encT (prs ps)[k], sub_l (by rw [List.getElem?_map, List.getElem?_eq_getElem hk]; rfl), _, rfl, List.getElem_mem hk⟩)
  exact ⟨p, S', e, hp, ad⟩
end
end RW
set_option Elab.async false
set_option linter.all false
set_option maxRecDepth 100000
set_option maxHeartbeats 4000000
namespace RW
open PySem PySem.W
section
variable {FN : Nat → Option FnD} (F : F04 FN) {S : Sto} {n i : Nat}
include F
theorem right_k04 (f8 : FN 8 = some fd__law_right_k04) (hw : Well S i) : ∃ S', callN FN none (n + 9) 8 [.ref i] S = some (.d (.bool true), S') ∧ Adv S S' i := by
  have hi := hw.lt
  obtain ⟨ps, ts, S1, e1, hweb, hl1, hl2, ad1⟩ := web_ok F.toFB (n := n + 3) F.f24 F.f28 (fun hw h1 h2 => names_ok F.toFB (n := n + 3) F.f27 hw h1 h2) (l := 2) (m := 6) hw (by omega) (by omega) (by omega)
  suffices hs : Ends (callN FN none (n + 8)) fd__law_right_k04.body [some (.ref i), none, none, none, none, none, none, none, none, none] S (fun fl _ S2 => ∃ S', Adv S S' i ∧ fl = .rt (.d (.bool true)) ∧ ∃ r, S2 = S' ++ r) by
    obtain ⟨fl, e', S2, q1, S', q2, q3, q4⟩ := hs
    exact ⟨S', call_adv f8 rfl rfl rfl _ rfl q2.len ⟨fl, e', S2, q1, q3, q4⟩, q2⟩
  refine Ends.step ⟨[some (.ref i), some (.d (partsD ps ts)), none, none, none, none, none, none, none, none], S1, ?_, ?_⟩
  · have e1' : callN FN none (n + 8) 28 [.ref i, .d (.int 2), .d (.int 6)] S = some (.d (partsD ps ts), S1) := e1
    simp [e1']
  have p0 : ∀ S, subVV (.d (partsD ps ts)) (.d (.int 0)) S = some (.d (encL ps), S) := fun S => by rw [subWW_d]; rfl
  refine Ends.step ⟨[some (.ref i), some (.d (partsD ps ts)), some (.d (webD ps ts)), some (.d (.list ((prs ps).map encT))), none, none, none, none, none, none], S1, ?_, ?_⟩
  · have m1 := fun S => made_ok F.toFW (n := n) (S := S) hweb
    have m2 := fun S => pairs_ok F.toFW (n := n + 7) (S := S) F.f33 hweb.pl.2.1
    simp only [ex_par, ev_cons, ev_call, ev_v, ev_sub, ev_k, ev_nil, slot_0, slot_s, Option.map_some, bd_some, noClo_d, noClo_nil, if_true, m1, p0, m2]
    simp
  obtain ⟨ws, S2, ⟨l, rfl, hlp, ad2⟩, e2⟩ := ev_lcI (call := callN FN none (n + 8)) (elt := .call 23 (.cons (.v 0) (.cons (.v 3) .nil))) (t := .nm 8) (it := .r1 (.k (.int 3))) (own := [8]) (e := [some (.ref i), some (.d (partsD ps ts)), some (.d (webD ps ts)), some (.d (.list ((prs ps).map encT))), none, none, none, none, none, none]) (S := S1) (fun k : Nat => PyData.int (k : Int)) (List.range 3)
    (fun r ws S' => ∃ l : List (Str × Str), ws = l.map (fun p => .d (encT p)) ∧ (l.length + r.length = 3 ∧ ∀ p ∈ l, p ∈ prs ps) ∧ Adv S S' i) (S1 := S1) (rng_ev (by omega) (by rw [ev_k]; rfl)) ⟨[], rfl, by simp, ad1⟩ (by
      rintro k r ws S' ⟨l, rfl, ⟨hl, hp⟩, ad⟩
      obtain ⟨p, S3, q1, q2, q3⟩ := pair_drawn F.toFW (n := n + 6) hweb.pl (ad.well hi)
      refine ⟨[some (.ref i), some (.d (partsD ps ts)), some (.d (webD ps ts)), some (.d (.list ((prs ps).map encT))), none, none, none, none, some (.d (.int (k : Int))), none], .d (encT p), S3, rfl, ?_, l ++ [p], by simp, ⟨by simp at hl ⊢; omega, fun x hx => ?_⟩, ad.trans q3⟩
      · simp only [ev_call, ev_cons, ev_v, ev_nil, slot_0, slot_s, Option.map_some, bd_some, noClo_ref, noClo_d, noClo_nil, if_true]
        exact q1
      · rcases List.mem_append.mp hx with hx | hx
        · exact hp x hx
        · simp at hx; subst hx; exact q2)
  obtain ⟨hl3, hlp⟩ := hlp
  rw [mkL_d l encT (by have : LIM = 16000000 := rfl; simp at hl3; omega)] at e2
  refine Ends.for encT l (fun r e S' => S' = S2 ∧ (∃ x0 x1 x2 x3 x4 x5, e = [some (.ref i), some (.d (partsD ps ts)), some (.d (webD ps ts)), some (.d (.list ((prs ps).map encT))), x0, x1, x2, x3, x4, x5]) ∧ ∀ p ∈ r, p ∈ prs ps) (S1 := S2) (by rw [ev_ie, e2]; rfl) ⟨rfl, ⟨none, none, none, none, none, none, rfl⟩, hlp⟩ ?_ ?_
  · rintro ⟨a, b⟩ r e S' ⟨rfl, ⟨x0, x1, x2, x3, x4, x5, rfl⟩, hr⟩
    obtain ⟨ha, hb, hab⟩ := prs_mem hweb.pl.nd (hr (a, b) (by simp))
    simp only at ha hb hab
    have w1 := fun S => all_ways_ok F.toFW (n := n + 4) (S := S) F.f38 F.f39 F.f40 hweb ha hb hab
    have w2 := fun S => all_ways_ok F.toFW (n := n + 4) (S := S) F.f38 F.f39 F.f40 hweb hb ha (Ne.symm hab)
    have k1 := same_ok F.toFB (n := n + 4) (d := 3) (shd_2 (shd_ways (a := a) (b := b) hweb ha) (shd_ways (a := a) (b := b) hweb ha))
    have k2 := same_ok F.toFB (n := n + 5) (d := 2) (shd_ways (a := b) (b := a) hweb hb)
    refine ⟨[some (.ref i), some (.d (partsD ps ts)), some (.d (webD ps ts)), some (.d (.list ((prs ps).map encT))), some (.d (.str a)), some (.d (.str b)), x2, x3, x4, x5], [some (.ref i), some (.d (partsD ps ts)), some (.d (webD ps ts)), some (.d (.list ((prs ps).map encT))), some (.d (.str a)), some (.d (.str b)), some (.d (wayD ps ts a b)), some (.d (wayD ps ts b a)), x4, x5], S', rfl, ?_, rfl, ⟨_, _, _, _, _, _, rfl⟩, fun p hp => hr p (by simp [hp])⟩
    have s1 : exT (callN FN none (n + 8)) none (.asg (.nm 6) (.bi .tuple (.cons (.call 31 (.cons (.v 1) (.cons (.v 4) (.cons (.v 5) .nil)))) .nil))) [some (.ref i), some (.d (partsD ps ts)), some (.d (webD ps ts)), some (.d (.list ((prs ps).map encT))), some (.d (.str a)), some (.d (.str b)), x2, x3, x4, x5] S' = some ((.nx, [some (.ref i), some (.d (partsD ps ts)), some (.d (webD ps ts)), some (.d (.list ((prs ps).map encT))), some (.d (.str a)), some (.d (.str b)), some (.d (wayD ps ts a b)), x3, x4, x5]), S') := by
      rw [ex_asg, law_ways_tup F.toFW (n := n + 6) hweb ha hab (by simp) (by simp) (by simp)]
      simp
    have s2 : exT (callN FN none (n + 8)) none (.ite (.nt (.call 3 (.cons (.tup (.cons (.call 40 (.cons (.v 2) (.cons (.v 4) (.cons (.v 5) .nil)))) (.cons (.callK 40 (.cons (.v 5) (.cons (.v 4) (.cons (.v 2) .nil)))) .nil))) (.cons (.tup (.cons (.v 6) (.cons (.v 6) .nil))) .nil)))) (.cons (.ret (.k (.bool false))) .nil) .nil) [some (.ref i), some (.d (partsD ps ts)), some (.d (webD ps ts)), some (.d (.list ((prs ps).map encT))), some (.d (.str a)), some (.d (.str b)), some (.d (wayD ps ts a b)), x3, x4, x5] S' = some ((.nx, [some (.ref i), some (.d (partsD ps ts)), some (.d (webD ps ts)), some (.d (.list ((prs ps).map encT))), some (.d (.str a)), some (.d (.str b)), some (.d (wayD ps ts a b)), x3, x4, x5]), S') := by
      have hc : evE (callN FN none (n + 8)) (.call 3 (.cons (.tup (.cons (.call 40 (.cons (.v 2) (.cons (.v 4) (.cons (.v 5) .nil)))) (.cons (.callK 40 (.cons (.v 5) (.cons (.v 4) (.cons (.v 2) .nil)))) .nil))) (.cons (.tup (.cons (.v 6) (.cons (.v 6) .nil))) .nil))) [some (.ref i), some (.d (partsD ps ts)), some (.d (webD ps ts)), some (.d (.list ((prs ps).map encT))), some (.d (.str a)), some (.d (.str b)), some (.d (wayD ps ts a b)), x3, x4, x5] S' = some (.d (.bool true), S') := by
        simp only [ev_call, ev_callK, ev_cons, ev_tup, ev_v, ev_nil, slot_0, slot_s, Option.map_some, bd_some, noClo_d, noClo_nil, if_true, w1, List.reverse_cons, List.reverse_nil, List.nil_append, List.cons_append, pds_cons, pds_nil, ob_some]
        rw [if_pos limT2, bd_some, if_pos limT2, bd_some, bd_some, bd_some, if_pos (by rfl)]
        exact k1 S'
      rw [ex_ite, ev_nt, hc, tb_b, bd_some]
      rfl
    have s3 : exT (callN FN none (n + 8)) none (.asg (.nm 7) (.bi .tuple (.cons (.call 31 (.cons (.v 1) (.cons (.v 5) (.cons (.v 4) .nil)))) .nil))) [some (.ref i), some (.d (partsD ps ts)), some (.d (webD ps ts)), some (.d (.list ((prs ps).map encT))), some (.d (.str a)), some (.d (.str b)), some (.d (wayD ps ts a b)), x3, x4, x5] S' = some ((.nx, [some (.ref i), some (.d (partsD ps ts)), some (.d (webD ps ts)), some (.d (.list ((prs ps).map encT))), some (.d (.str a)), some (.d (.str b)), some (.d (wayD ps ts a b)), some (.d (wayD ps ts b a)), x4, x5]), S') := by
      rw [ex_asg, law_ways_tup F.toFW (n := n + 6) hweb hb (Ne.symm hab) (by simp) (by simp) (by simp)]
      simp
    have hc1 : evE (callN FN none (n + 8)) (.nt (.call 3 (.cons (.call 40 (.cons (.v 2) (.cons (.v 5) (.cons (.v 4) .nil)))) (.cons (.v 7) .nil)))) [some (.ref i), some (.d (partsD ps ts)), some (.d (webD ps ts)), some (.d (.list ((prs ps).map encT))), some (.d (.str a)), some (.d (.str b)), some (.d (wayD ps ts a b)), some (.d (wayD ps ts b a)), x4, x5] S' = some (.d (.bool false), S') := by
      have : evE (callN FN none (n + 8)) (.call 3 (.cons (.call 40 (.cons (.v 2) (.cons (.v 5) (.cons (.v 4) .nil)))) (.cons (.v 7) .nil))) [some (.ref i), some (.d (partsD ps ts)), some (.d (webD ps ts)), some (.d (.list ((prs ps).map encT))), some (.d (.str a)), some (.d (.str b)), some (.d (wayD ps ts a b)), some (.d (wayD ps ts b a)), x4, x5] S' = some (.d (.bool true), S') := by
        simp only [ev_call, ev_cons, ev_v, ev_nil, slot_0, slot_s, Option.map_some, bd_some, noClo_d, noClo_nil, if_true, w2]
        exact k2 S'
      rw [ev_nt, this, tb_b, bd_some]; rfl
    have hlc : evE (callN FN none (n + 8)) (.lc (.rev (.v 9)) (.mk (.nm 9) (.e (.v 7)) .no) [9]) [some (.ref i), some (.d (partsD ps ts)), some (.d (webD ps ts)), some (.d (.list ((prs ps).map encT))), some (.d (.str a)), some (.d (.str b)), some (.d (wayD ps ts a b)), some (.d (wayD ps ts b a)), x4, x5] S' = some (.d (.list (((ways ts ps.length b a).map List.reverse).map encL)), S') := by
      rw [ev_lcA encL (ways ts ps.length b a) (fun w => encL w.reverse) (S1 := S') (by simp [wayD]) (Nat.le_trans (ways_len hweb hb) (by unfold LIM; omega)) fun w hw => ⟨[some (.ref i), some (.d (partsD ps ts)), some (.d (webD ps ts)), some (.d (.list ((prs ps).map encT))), some (.d (.str a)), some (.d (.str b)), some (.d (wayD ps ts a b)), some (.d (wayD ps ts b a)), x4, some (.d (encL w))], rfl, ?_⟩, List.map_map]
      · rfl
      · have : revD (encL w) = some (encL w.reverse) := by
          show some (PyData.tuple (w.map PyData.str).reverse) = _
          rw [← List.map_reverse]; rfl
        simp only [ev_rev, ev_v, slot_0, slot_s, Option.map_some, bd_some, pd_d, ob_some, this]
    have hc2 : evE (callN FN none (n + 8)) (.cmp .NotEq (.bi .sorted (.cons (.lc (.rev (.v 9)) (.mk (.nm 9) (.e (.v 7)) .no) [9]) .nil)) (.bi .sorted (.cons (.v 6) .nil))) [some (.ref i), some (.d (partsD ps ts)), some (.d (webD ps ts)), some (.d (.list ((prs ps).map encT))), some (.d (.str a)), some (.d (.str b)), some (.d (wayD ps ts a b)), some (.d (wayD ps ts b a)), x4, x5] S' = some (.d (.bool false), S') := by
      have hl' : ((ways ts ps.length b a).map List.reverse).length ≤ LIM := by rw [List.length_map]; exact Nat.le_trans (ways_len hweb hb) (by unfold LIM; omega)
      have t1 := (sorted_ways hl' fun w hw => by
        obtain ⟨v, hv, rfl⟩ := List.mem_map.mp hw
        have := ways_ne hweb hb v hv
        simpa using this).1
      have t2 := (sorted_ways (g := ways ts ps.length a b) (Nat.le_trans (ways_len hweb ha) (by unfold LIM; omega)) (ways_ne hweb ha)).2
      have t2 : biD .sorted [wayD ps ts a b] = _ := t2
      rw [srtK_congr Tup_inj (ways_rev hweb ha hb)] at t1
      have t3 : cmpD .NotEq (.list ((srtK Tup.mk (ways ts ps.length a b)).map encL)) (.list ((srtK Tup.mk (ways ts ps.length a b)).map encL)) = some false := by
        have := cmpD_ne ((srtK Tup.mk (ways ts ps.length a b)).map Tup.mk) ((srtK Tup.mk (ways ts ps.length a b)).map Tup.mk) (by decide)
        have e : (.list ((srtK Tup.mk (ways ts ps.length a b)).map encL) : D) = Datum.toD ((srtK Tup.mk (ways ts ps.length a b)).map Tup.mk) := by
          show _ = PyData.list (((srtK Tup.mk (ways ts ps.length a b)).map Tup.mk).map Datum.toD)
          rw [List.map_map]; rfl
        rw [e, this]; simp
      rw [ev_cmp, ev_bi, ev_cons, hlc, bd_some, ev_nil, bd_some, bd_some, biWW_1, t1, Option.map_some, bd_some]
      simp only [ev_bi, ev_cons, ev_v, ev_nil, slot_0, slot_s, Option.map_some, bd_some, biWW_1, t2, cmpW_d, t3]
    rw [ex_cons, s1, bd_some, seqE_nx, ex_cons, s2, bd_some, seqE_nx, ex_cons, s3, bd_some, seqE_nx, ex_cons, ex_ite, ev_or, hc1, bd_some, orW_f, hc2, tb_b, bd_some, iteW_f, ex_nil, bd_some, seqE_nx, ex_nil]
  · rintro e S' ⟨rfl, ⟨x0, x1, x2, x3, x4, x5, rfl⟩, hr⟩
    refine Ends.retP (w := .d (.bool true)) (S1 := S') (by rw [ev_k]) ⟨S', ad2, rfl, [], by simp⟩
end
theorem base_k04 : F04 FN_k04 := { f1 := rfl, f2 := rfl, f3 := rfl, f10 := rfl, f11 := rfl, f12 := rfl, f13 := rfl, f14 := rfl, f15 := rfl, f16 := rfl, f17 := rfl, f18 := rfl, f19 := rfl, f20 := rfl, f21 := rfl, f22 := rfl, f23 := rfl, f25 := rfl, f152 := rfl, f153 := rfl, f24 := rfl, f28 := rfl, f29 := rfl, f30 := rfl, f31 := rfl, f36 := rfl, f37 := rfl, f27 := rfl, f33 := rfl, f38 := rfl, f39 := rfl, f40 := rfl }
theorem law_k04 (n : Nat) (ns : List Int) (h : ns.length ≤ 1000) : callN FN_k04 none (n + 10) 9 [.scr ns] [] = some (.d (.bool true), []) :=
  law_frame base_k04.toFB (n := n + 8) (K := 10) (fd := fd_law_k04) rfl rfl rfl rfl rfl rfl (by omega) (fun S i hw => right_k04 base_k04 (n := n) rfl hw) ns h
end RW
set_option Elab.async false
set_option linter.all false
set_option maxRecDepth 100000
set_option maxHeartbeats 4000000
/-! the program: every def does what the interpreter says -/
namespace RW
open PySem PySem.W PyProof.Rows L2
structure Fc (P : Program) (w : World) (K : PySem.W.Frag) (mg : Str → Option Value) (base : Heap) (C : DC) (nm : Nat → Option Str) (par : Nat → List Str) (ini : Nat) (kr : Nat → Bool) (adr : Nat → Addr) (fdt : Nat → FuncData) : Prop where
  hK : C.K = K
  ok : DCok C
  bm : ∀ x, x ∈ bnames → mg x = none
  fn : ∀ f x, nm f = some x → mg x = some (.ref (adr f)) ∧ C.fns f = some (adr f) ∧ PySem.W.keepIn K (.ref (adr f)) = true ∧ Binds K (fdt f) (par f) [] ∧ (kr f = true → KRev (fdt f) (par f))
  fns : ∀ n a, C.fns n = some a → ∃ x, nm n.toNat = some x ∧ a = adr n.toNat
  web : ∃ A, mg "Web" = some (.ref A) ∧ C.cls "Web" = some A ∧ Mk K A (adr ini) ∧ Binds K (fdt ini) (par ini) [] ∧ (kr ini = true → KRev1 (fdt ini) (par ini))
  get : ∀ f A, partB f = true → C.cls "Web" = some A → GetOk P w K mg base C A f
  noat : ∀ c A, C.cls c = some A → NoAttr K A "all_told"
def lv (n : Nat) : Nat := 3 + 2 * n
section
variable {P : Program} {w : World} {K : PySem.W.Frag} {mg : Str → Option Value} {base : Heap} {C : DC} {FN : Nat → Option FnD} {nm : Nat → Option Str} {par : Nat → List Str} {ini : Nat} {kr : Nat → Bool} {adr : Nat → Addr} {fdt : Nat → FuncData}
def AllFn (P : Program) (w : World) (K : PySem.W.Frag) (mg : Str → Option Value) (base : Heap) (C : DC) (nm : Nat → Option Str) (par : Nat → List Str) (ini : Nat) (adr : Nat → Addr) (fdt : Nat → FuncData) (n : Nat) (call : Call) : Prop :=
  ∀ f, ((nm f).isSome = true ∨ f = ini) → FnOk P w K mg base C8.CX0 (lv n) (adr f) (fdt f) (par f) (spC C noL (call f))
theorem Fc.fx (F : Fc P w K mg base C nm par ini kr adr fdt) {n : Nat} {call : Call} (h : AllFn P w K mg base C nm par ini adr fdt n call) {X : Cx} (h1 : X.K = K) (h2 : X.mg = mg) (h3 : X.prog = P) (h4 : X.w = w) (h5 : X.base = base) (h6 : X.calm = true) (h7 : X.N.Nodup) (h8 : Room (lv n + 1) X.A)
    {L : Clo} (hL : ∀ a k cs, L a k cs → LamOk X C a fun ws S => call k (cs.map .d ++ ws) S) : Fx C L nm par ini kr call X := by
  subst h1 h2 h3 h4 h5
  refine ⟨F.hK, F.ok, h6, by have := h8.un; omega, h8.mono (by unfold lv; omega), h7, F.bm, fun f x hf => ?_, fun n' a ha => ?_, hL, ?_, F.get, F.noat⟩
  · obtain ⟨g1, g2, g3, g4, g5⟩ := F.fn f x hf
    exact ⟨adr f, lv n, fdt f, g1, g2, g3, h f (.inl (by rw [hf]; rfl)), h8.mono (by omega), g4, g5⟩
  · obtain ⟨x, hx, rfl⟩ := F.fns n' a ha
    obtain ⟨g1, g2, g3, g4, g5⟩ := F.fn _ x hx
    exact ⟨lv n, fdt n'.toNat, par n'.toNat, h _ (.inl (by rw [hx]; rfl)), h8.mono (by omega), g3, g4⟩
  · obtain ⟨A, g1, g2, g3, g4, g5⟩ := F.web
    exact ⟨A, adr ini, lv n, fdt ini, g1, g2, g3, h ini (.inr rfl), h8, g4, g5⟩
theorem fnOk_none {lvl : Nat} {a : Addr} {fd : FuncData} {ps : List Str} {call : List W → Sto → Option (W × Sto)} (h : ∀ ws S, call ws S = none) : FnOk P w K mg base C8.CX0 lvl a fd ps (spC C noL call) :=
  ⟨(fun vs H Q E ⟨O, φ, S, ws, w', S', _, _, e, _⟩ => by rw [h] at e; cases e), fun A outer s H args us vs Q E _ _ _ _ ⟨O, φ, S, ws, w', S', _, _, e, _⟩ => by rw [h] at e; cases e⟩
/-- by the depth of calls -/
theorem all_fn (step : ∀ n, (∀ m, m ≤ n → AllFn P w K mg base C nm par ini adr fdt m (callN FN none m)) → ∀ f, ((nm f).isSome = true ∨ f = ini) → FnOk P w K mg base C8.CX0 (lv (n + 1)) (adr f) (fdt f) (par f) (spC C noL (callN FN none (n + 1) f))) :
    ∀ n m, m ≤ n → AllFn P w K mg base C nm par ini adr fdt m (callN FN none m)
  | _, 0, _ => fun f _ => fnOk_none fun _ _ => rfl
  | n + 1, m + 1, h => step m fun i hi => all_fn step n i (Nat.le_trans hi (Nat.le_of_succ_le_succ h))
/-- one def by its checked body -/
theorem step_fn (F : Fc P w K mg base C nm par ini kr adr fdt) {n : Nat} (h : AllFn P w K mg base C nm par ini adr fdt n (callN FN none n)) {f : Nat} {x qual : Str} {st : Stmt} {ps : List Str} {fd : FnD} {ck : Ck} {oc dV kV doc pm cdv ct : Value} {od an : Option Addr} {osl : Array (Option Value)}
    (hf : FN f = some fd) (hnat : fd.nat = none)
    (lk : K.lookup (adr f) = some ⟨oc, od, .func (PySem.W.fnOf x qual (C8.fnArgs st) (C8.fnBody st) (C8.fnScope st) dV kV doc pm an cdv ct), osl⟩) (hfd : fdt f = PySem.W.fnOf x qual (C8.fnArgs st) (C8.fnBody st) (C8.fnScope st) dV kV doc pm an cdv ct) (hcd : PySem.W.codeIn K cdv qual = true) (S : FnScope fd.N (par f) (C8.fnScope st)) (hl : (par f).length = fd.np)
    (hck : chkTs ck fd.body (C8.fnBody st) = true) (hsc : ck.sc = C8.fnScope st) (hN : ck.N = fd.N) (hfb : ck.fnb = fun _ => true) (hnm : ck.nm = nm) (hpar : ck.par = par) (hini : ck.ini = ini) (hkr : ck.kr = kr)
    (hext : ∀ (A : Around) (outer : List Env) (s : Shared) (H : Hp) (E : XK), Room (lv n + 1) (A.deeper (envOfC qual (C8.fnScope st) s.heap.objs.size (adr f) cdv)) → ∀ e a, ck.ext e a = true → PE (cxOf C8.CX0 P w K mg base fd.N qual (C8.fnScope st) (adr f) cdv A outer s H E).nox a (tE C noL (evE (callN FN none n) e)))
    (hgv : ∀ x y, x ∈ ck.gvs → GV x = some y → ∃ v u, mg x = some u ∧ RelV v u ∧ ∀ O H, Dn C O H v y) :
    FnOk P w K mg base C8.CX0 (lv (n + 1)) (adr f) (fdt f) (par f) (spC C noL (callN FN none (n + 1) f)) := by
  have e : callN FN none (n + 1) f = runF (callN FN none n) none fd := by
    funext ws S
    exact callN_run hf hnat
  rw [e, hfd]
  exact (fn_runE (k := lv n + 1) (L := noL) (call := callN FN none n) (fu := none) lk hcd S hl hck hsc hN hfb hnm hpar hini hkr (fun _ a j cs z => z) (fun X h1 h2 h3 h4 h5 h6 h7 h8 => F.fx h h1 h2 h3 h4 h5 h6 h7 h8 fun a k cs z => z.elim) hext hgv).mono (by unfold lv; omega)
end
end RW
set_option Elab.async false
set_option linter.all false
set_option maxRecDepth 100000
set_option maxHeartbeats 4000000
/-! g(a, b, c, lambda ahead, each: ..) -/
namespace RW
open PySem PySem.W PyProof.Rows L2
def pars2 (x y : Str) (p : Arguments) : Bool := match p with
  | ⟨[], [⟨a, _, _⟩, ⟨b, _, _⟩], none, [], [], none, []⟩ => decide (a = x) && decide (b = y)
  | _ => false
theorem pars2_of {x y : Str} {p : Arguments} (h : pars2 x y p = true) : ∃ n1 p1 n2 p2, p = ⟨[], [⟨x, n1, p1⟩, ⟨y, n2, p2⟩], none, [], [], none, []⟩ := by
  unfold pars2 at h
  split at h
  · rw [Bool.and_eq_true, decide_eq_true_eq, decide_eq_true_eq] at h
    obtain ⟨rfl, rfl⟩ := h
    exact ⟨_, _, _, _, rfl⟩
  · cases h
theorem bind_ae {q1 q2 : Str} {n1 n2 : Option Expr} {p1 p2 : Pos} {body : Expr} {scope : Scope} {cl : List (Str × Addr)} {pm c ctv : Value} : ∀ us : List Value, us.length = (["ahead", "each"] : List Str).length → bindArgs (PySem.W.kla_fn q1 q2 ⟨[], [⟨"ahead", n1, p1⟩, ⟨"each", n2, p2⟩], none, [], [], none, []⟩ body scope cl pm c ctv) ⟨us, []⟩ = pure ((["ahead", "each"] : List Str).zip us)
  | [a, b], _ => rfl
/-- the check of such a call: g: its def; l: the lambda's -/
def extLam (k : Ck) (g : Nat) (gn : Str) (fdl : FnD) (le : RW.E) (cs0 : List Nat) (l0 : Nat) : RW.E → Expr → Bool
  | .callL f (.cons e1 (.cons e2 (.cons e3 .nil))) l cs, .Call (.Name x _) [a1, a2, a3, .Lambda params body scope _] [] _ =>
    decide (f = g) && decide (l = l0) && decide (cs = cs0) && decide (x = gn) && glB k x && okN x && chk { k with ext := fun _ _ => false } false e1 a1 && chk { k with ext := fun _ _ => false } false e2 a2 && chk { k with ext := fun _ _ => false } false e3 a3 && notStar a1 && notStar a2 && notStar a3 &&
      pars2 "ahead" "each" params && lamWB k.N k.sc scope cs0 ["ahead", "each"] fdl.N && chk ⟨fdl.N, scope, fun _ => false, k.nm, k.par, k.ini, k.kr, true, fun _ _ => false, k.gvs⟩ false le body
  | _, _ => false
section
variable {P : Program} {w : World} {K : PySem.W.Frag} {mg : Str → Option Value} {base : Heap} {C : DC} {FN : Nat → Option FnD} {nm : Nat → Option Str} {par : Nat → List Str} {ini : Nat} {kr : Nat → Bool} {adr : Nat → Addr} {fdt : Nat → FuncData}
theorem lamOk_none {X : Cx} {a : Addr} (h : ∀ (pins : List (Addr × Obj)) (σ : L2.St) (H : Hp) (s : Shared), Inv X pins σ H s → PySem.W.FnAt a s.heap) : LamOk X C a fun _ _ => none :=
  ⟨h, fun pins σ H s vs us Q _ _ ⟨O, φ, S, ws, w', S', _, _, e, _⟩ => by cases e⟩
theorem lam_ext (F : Fc P w K mg base C nm par ini kr adr fdt) {n : Nat} (all : ∀ m, m ≤ n → AllFn P w K mg base C nm par ini adr fdt m (callN FN none m)) {X : Cx} {g l0 : Nat} {gn : Str} {fdl fdg : FnD} {le : RW.E} {cs0 : List Nat} {k ckg : Ck} {stg : Stmt} {cA Pt : Addr}
    (h1 : X.K = K) (h2 : X.mg = mg) (h3 : X.prog = P) (h4 : X.w = w) (h5 : X.base = base) (h6 : X.calm = true) (h7 : X.N.Nodup) (h8 : Room (lv n + 1) X.A)
    (NM : ∀ call, Nm C call noL nm par ini kr { k with ext := fun _ _ => false } X)
    (hg : FN g = some fdg) (hgn : fdg.nat = none) (hl : FN l0 = some fdl) (hln : fdl.nat = none) (hlb : fdl.body = .cons (.ret le) .nil) (hlk : fdl.keep = false) (hlp : fdl.np = cs0.length + 2) (hnmg : nm g = some gn)
    (Fg : C8.Fun K gn gn stg (adr g) (fdt g)) (Sg : FnScope fdg.N (par g) (C8.fnScope stg)) (hlg : (par g).length = fdg.np) (hkeep : fdg.keep = false)
    (hck : chkTs ckg fdg.body (C8.fnBody stg) = true) (hsc : ckg.sc = C8.fnScope stg) (hN : ckg.N = fdg.N) (hfb : ckg.fnb = fun _ => true) (hnm : ckg.nm = nm) (hpar : ckg.par = par) (hini : ckg.ini = ini) (hkr : ckg.kr = kr) (hlc : ckg.lcOk = false) (hex : ckg.ext = fun _ _ => false)
    (hgv : ∀ x y, x ∈ ckg.gvs → GV x = some y → ∃ v u, mg x = some u ∧ RelV v u ∧ ∀ O H, Dn C O H v y) (hgvk : ∀ x y, x ∈ k.gvs → GV x = some y → ∃ v u, mg x = some u ∧ RelV v u ∧ ∀ O H, Dn C O H v y)
    (TB : LamX.TabB base mg cA Pt) (hcode : X.env.code = .ref cA) (hmT : (Pt, X.env.qual ++ "<lambda>") ∈ C.T) (hu : ∀ p ∈ C.T, p.1 = Pt → p.2 = X.env.qual ++ "<lambda>")
    {e : RW.E} {a : Expr} (h : extLam k g gn fdl le cs0 l0 e a = true) : PE X a (tE C noL (evE (callN FN none n) e)) := by
  subst h1 h2 h3 h4 h5
  unfold extLam at h
  split at h
  · rename_i f e1 e2 e3 l cs x p a1 a2 a3 params body scope lpos pos
    simp only [Bool.and_eq_true] at h
    obtain ⟨⟨⟨⟨⟨⟨⟨⟨⟨⟨⟨⟨⟨⟨c1, c2⟩, c3⟩, c4⟩, c5⟩, c6⟩, c7⟩, c8⟩, c9⟩, c10⟩, c11⟩, c12⟩, c13⟩, c14⟩, c15⟩ := h
    have c1 := of_decide_eq_true c1
    have c2 := of_decide_eq_true c2
    have c3 := of_decide_eq_true c3
    have c4 := of_decide_eq_true c4
    subst c1 c2 c3 c4
    cases n with
    | zero =>
      refine ⟨fun pins s σ H Q I ⟨O, φ, S, env, w', S', at_, e, hq⟩ => ?_⟩
      exfalso
      have e : bd (evEs (callN FN none 0) (.cons e1 (.cons e2 (.cons e3 .nil))) env S) (fun ws S => if noClo ws then (ob (caps env cs) fun xs => if xs.all capD then (none : Option (W × Sto)) else none) else none) = some (w', S') := e
      obtain ⟨ws, S1, _, e⟩ := bd_eq e
      split at e
      · obtain ⟨xs, _, e⟩ := ob_eq e
        split at e <;> cases e
      · cases e
    | succ m =>
      obtain ⟨n1, p1, n2, p2, rfl⟩ := pars2_of c13
      have FX := F.fx (all (m + 1) (Nat.le_refl _)) (X := X) rfl rfl rfl rfl rfl h6 h7 h8 (L := noL) fun a k cs z => z.elim
      have LW : LamW X.N X.env.scope scope cs ["ahead", "each"] fdl.N := by
        have := lamW_by c14
        rw [(NM (callN FN none (m + 1))).N, (NM (callN FN none (m + 1))).sc]
        exact this
      obtain ⟨g1, g2, g3, g4, g5⟩ := F.fn f x hnmg
      have key := pe_lam3 (C := C) (X := X) (call := callN FN none m) (fu := none) (k := lv m + 1) (l := l) (nm := nm) (par := par) (ini := ini) (kr := kr) (ck := ckg) (fdg := fdg) (ps := par f) (cs := cs) (psl := ["ahead", "each"]) (Nl := fdl.N) (cA := cA) (P := Pt) (g := adr f) (st := stg) (fdt := fdt f) (x := x) (p := p) (lpos := lpos) (pos := pos) (params := ⟨[], [⟨"ahead", n1, p1⟩, ⟨"each", n2, p2⟩], none, [], [], none, []⟩) (body := body) (scope := scope)
        ((chk_ok e1 _ false X a1 FX (NM _) c7).val rfl) ((chk_ok e2 _ false X a2 FX (NM _) c8).val rfl) ((chk_ok e3 _ false X a3 FX (NM _) c9).val rfl) c10 c11 c12 ((NM (callN FN none (m + 1))).gl c5) g1 g3 (okN_of c6).1 Fg Sg hlg hkeep g4
        hck hsc hN hfb hnm hpar hini hkr hlc hex hgv TB hcode hmT hu (h8.mono (by unfold lv; omega)) LW rfl ?_ ?_
      · refine PE.imp key fun σ H Q ⟨O, φ, S, env, w', S', at_, e, hq⟩ => ⟨O, φ, S, env, w', S', at_, ?_, hq⟩
        have e0 : callN FN none (m + 1) f = runF (callN FN none m) none fdg := by
          funext ws S
          exact callN_run hg hgn
        rw [← e0]
        exact e
      · intro pins σ H s fa c' pm ctv cdg vc xs O0 I la hc hcv dc hca hr
        cases m with
        | zero =>
          refine lamOk_none fun pinsZ σZ HZ sZ IZ => ?_
          exact ⟨_, _, _, _, IZ.base.keep fa _ la.ob la.no la.fr (fun z => nomatch (show fa ∈ ([] : List Addr) from z))⟩
        | succ m =>
          have e0 : callN FN none (m + 1) l = runF (callN FN none m) none fdl := by
            funext ws S
            exact callN_run hl hln
          rw [e0]
          refine lam_ok (call := callN FN none m) (fu := none) (k := lv m + 1) (fdl := fdl) (e := le) I LW la hmT hc hcv dc hca bind_ae hlp hlb (hr.mono (by unfold lv; omega)) fun A outer s' H' hr' => ?_
          have FX2 := F.fx (all m (by omega)) (X := lamC X A outer s' H' scope fa c' fdl.N) rfl rfl rfl rfl rfl rfl LW.nd hr' (L := noL) fun a k cs z => z.elim
          have n0 := NM (callN FN none m)
          exact (chk_ok le ⟨fdl.N, scope, fun _ => false, k.nm, k.par, k.ini, k.kr, true, fun _ _ => false, k.gvs⟩ false _ body FX2 ⟨n0.nm, n0.par, n0.ini, n0.kr, (fun _ a j cs z => z), rfl, rfl, rfl, (fun e a z => nomatch (show false = true from z)), hgvk⟩ c15).val rfl
      · intro Z L z1 z2 z3 z4 z5 z6 z7 z8 z9
        exact F.fx (all m (by omega)) z1 z2 z3 z4 z5 z6 z7 z8 z9
  · cases h
end
end RW
set_option Elab.async false
set_option linter.all false
set_option maxRecDepth 100000
set_option maxHeartbeats 4000000
/-! sorted(.., key=lambda each: (len(each), each)) -/
namespace RW
open PySem PySem.W PyProof.Rows L2
def pars1 (x : Str) (p : Arguments) : Bool := match p with
  | ⟨[], [⟨a, _, _⟩], none, [], [], none, []⟩ => decide (a = x)
  | _ => false
theorem pars1_of {x : Str} {p : Arguments} (h : pars1 x p = true) : ∃ n1 p1, p = ⟨[], [⟨x, n1, p1⟩], none, [], [], none, []⟩ := by
  unfold pars1 at h
  split at h
  · rw [decide_eq_true_eq] at h
    subst h
    exact ⟨_, _, rfl⟩
  · cases h
theorem bind_e {q1 q2 : Str} {n1 : Option Expr} {p1 : Pos} {body : Expr} {scope : Scope} {cl : List (Str × Addr)} {pm c ctv u : Value} : bindArgs (PySem.W.kla_fn q1 q2 ⟨[], [⟨"each", n1, p1⟩], none, [], [], none, []⟩ body scope cl pm c ctv) ⟨[u], []⟩ = pure [(("each" : Str), u)] := rfl
/-- (len(each), each) -/
def keyB : Expr → Bool
  | .Tuple [.Call (.Name x _) [.Name y _] [] _, .Name z _] _ _ => decide (x = "len") && decide (y = "each") && decide (z = "each")
  | _ => false
def keySc (scope : Scope) : Bool := decide (scope.kind = .function) && !scope.isCoroutine && !scope.isGenerator && (scope.names.all fun y => !decide (y.2 = .cell) && !decide (y.2 = .free)) && decide (scope.names.lookup ("each" : Str) = some .local) && decide (scope.names.lookup ("len" : Str) = some .globalImplicit)
section
variable {X : Cx} {pins : List (Addr × Obj)} {σ : L2.St} {H : Hp} {s : Shared}
theorem reads_atoms {h : Heap} : ∀ {us : List Value} {xs : List D} {as : List Addr}, ReadsAll h us xs as → xs.all atomB = true → ReadsAll h us xs []
  | [], [], _, _, _ => .nil
  | u :: us, x :: xs, _, .cons r t, e => by
    rw [List.all_cons, Bool.and_eq_true] at e
    have h2 := reads_atoms t e.2
    cases r with
    | none => exact .cons (as := []) .none h2
    | bool b => exact .cons (as := []) (.bool b) h2
    | int i t => exact .cons (as := []) (.int i t) h2
    | str x t => exact .cons (as := []) (.str x t) h2
    | _ => cases e.1
/-- the key of one item -/
theorem key_turn {n1 : Option Expr} {p1 : Pos} {body : Expr} {scope : Scope} {f c' : Addr} {pm ctv v : Value} {xs : List D} {as : List Addr} {A : Around} (I : Inv X pins σ H s)
    (hs : keySc scope = true) (hb : keyB body = true) (hml : X.mg "len" = none) (hdp : A.depth < recursionLimit) (hhd : A.handled = none)
    (ob : s.heap.get? f = some (PySem.W.kla_obj "<lambda>" (X.env.qual ++ "<lambda>") ⟨[], [⟨"each", n1, p1⟩], none, [], [], none, []⟩ body scope (cloFrom X.env.cells scope.names []) pm c' ctv))
    (cr : ∃ (oc : Obj) (vsc : Array Value) (t : Tok), s.heap.get? c' = some oc ∧ oc.data = .fields vsc ∧ vsc[1]? = some (.str (X.env.qual ++ "<lambda>") t)) (hlen : xs.length ≤ sizeLine)
    {h : Heap} {tk : Nat} (kp : ∀ b o, s.heap.get? b = some o → h.get? b = some o) (rd : Reads h v (.tuple xs) as) (hat : xs.all atomB = true) :
    wpAny (model X.prog X.w) A (call (.ref f) [v]) (KeyPure (.tuple [.int (xs.length : Nat), .tuple xs]) { s with heap := h, toks := tk }) (fun _ _ => False) { s with heap := h, toks := tk } := by
  unfold keySc at hs
  simp only [Bool.and_eq_true, Bool.not_eq_true', decide_eq_true_eq, decide_eq_false_iff_not, List.all_eq_true] at hs
  obtain ⟨⟨⟨⟨⟨k1, k2⟩, k3⟩, k4⟩, k5⟩, k6⟩ := hs
  unfold keyB at hb
  split at hb
  · rename_i x xp y yp cpos z zp e1 tpos
    simp only [Bool.and_eq_true, decide_eq_true_eq] at hb
    obtain ⟨⟨rfl, rfl⟩, rfl⟩ := hb
    obtain ⟨oc, vsc, t, q1, q2, q3⟩ := cr
    obtain ⟨a, o, vs, n, as2, rfl, g1, g2, g3, g4⟩ : ∃ (a : Addr) (o : Obj) (vs : Array Value) (n : Nat) (as2 : List Addr), v = .ref a ∧ h.get? a = some o ∧ o.cls = .type "tuple" ∧ o.data = .seq vs n ∧ ReadsAll h vs.toList xs as2 := by
      cases rd with
      | tuple g1 g2 g3 g4 => exact ⟨_, _, _, _, _, rfl, g1, g2, g3, g4⟩
    have g5 := reads_atoms g4 hat
    have hvl : vs.size = xs.length := by
      have : ∀ {us : List Value} {ds : List D} {as : List Addr}, ReadsAll h us ds as → us.length = ds.length := fun {us ds as} r => by
        induction us generalizing ds as with
        | nil => cases r; rfl
        | cons u us ih => cases r with
          | cons _ r => simp [ih r]
      have := this g4
      simpa using this
    refine wpAny_call (codeAny_mono (R := fun r s' => ∃ u, r = .ok (.ret u) ∧ KeyPure (.tuple [.int (xs.length : Nat), .tuple xs]) { s with heap := h, toks := tk } u s') ?_ fun r s' ⟨u, hr, hu⟩ => by subst hr; exact hu)
    refine PySem.W.kla_callFunE hdp (kp _ _ ob) rfl k2 k3 rfl ⟨c', oc, vsc, t, rfl, kp _ _ q1, q2, q3⟩ ?_
    rw [bind_e]
    refine wpAny_pure (wpAny_newFunctionEnv (fun y hy => (k4 y hy).1) (fun y hy => by
      simp only [List.mem_singleton] at hy
      subst hy
      exact k5) (fun h₁ hns hsb => ⟨(I.nolimit.keeps kp).fresh _ hsb, ?_⟩) k1)
    have kp1 : ∀ b o, h.get? b = some o → h₁.get? b = some o := fun b o e => hsb.extBut b o (Nat.ne_of_lt (Heap.lt_size e)) (Heap.get?_push_of_some _ e)
    refine PySem.W.kla_codeExpr ?_
    refine wpAny_Tuple_spliced ?_
    have ldE : ∀ {h2 : Heap} {tk2 : Nat} {p : Pos} {A2 : Around} {E2 : Value → Shared → Prop} {Q2 : Value → Shared → Prop}, h2.Ns h.objs.size (fun y => [(("each" : Str), Value.ref a)].reverse.lookup y) → Q2 (.ref a) { s with heap := h2, toks := tk2 } →
        wpAny (model X.prog X.w) A2 (eval (.Name "each" p) (LamX.lamEnv X scope h.objs.size f c')) Q2 E2 { s with heap := h2, toks := tk2 } := fun {h2 tk2 p A2 E2 Q2} hn hq =>
      wpAny_Name (wpAny_loadName_local k1 k5 hn rfl hq) (by decide)
    have kb : ∀ b o, X.base.get? b = some o → h₁.get? b = some o := fun b o e => kp1 b o (kp b o (I.bk b o e))
    obtain ⟨mb, m1, m2⟩ := I.mod.blt
    have ldL : ∀ {tk2 : Nat} {p : Pos} {A2 : Around} {E2 : Value → Shared → Prop} {Q2 : Value → Shared → Prop}, Q2 (.builtin "len") { s with heap := h₁, toks := tk2 } →
        wpAny (model X.prog X.w) A2 (eval (.Name "len" p) (LamX.lamEnv X scope h.objs.size f c')) Q2 E2 { s with heap := h₁, toks := tk2 } := fun {tk2 p A2 E2 Q2} hq =>
      Calls.Name_function_global k1 k6 (Calls.loadGlobal_builtin (I.mod.glob.keeps kb) hml (m1.keeps kb) ((m2 "len" (by decide)).trans rfl) hq) (by decide)
    refine Calls.spliced_cons ?_
    refine wpAny_Call_Name_kw (ldL ?_)
    refine PyProof.Rows.callWith_builtin1 (Calls.spliced_cons (ldE hns (Calls.spliced_nil ?_))) rfl rfl
    refine len_tuple ⟨o, kp1 _ _ g1, g2, n, g3⟩ (by rw [hvl]; have := line63; omega) ?_
    refine Calls.spliced_cons (ldE hns (Calls.spliced_nil ⟨by show 2 ≤ sizeLine; decide, ?_⟩))
    refine ⟨_, rfl, _, _, rfl, fun b o e => Heap.get?_push_of_some _ (kp1 _ _ e), ?_⟩
    have kp2 : ∀ b o, h.get? b = some o → (h₁.push { cls := .type "tuple", data := .seq [Value.int (vs.size : Nat) (tk + [(("each" : Str), Value.ref a)].length + 1), .ref a].toArray }).get? b = some o := fun b o e => Heap.get?_push_of_some _ (kp1 _ _ e)
    have r2 : Reads (h₁.push { cls := .type "tuple", data := .seq [Value.int (vs.size : Nat) (tk + [(("each" : Str), Value.ref a)].length + 1), .ref a].toArray }) (.ref a) (.tuple xs) [] := .tuple (kp2 _ _ g1) g2 g3 (PyProof.Rows.ReadsAll.keeps kp2 g5)
    refine .tuple (as := []) (Heap.get?_push_size _ rfl) rfl rfl ?_
    rw [← hvl]
    exact .cons (as := []) (.int _ _) (.cons (as := []) r2 .nil)
  · cases hb
end
end RW
set_option Elab.async false
set_option linter.all false
set_option maxRecDepth 100000
set_option maxHeartbeats 4000000
namespace RW
open PySem PySem.W PyProof.Rows L2
def keyOfD (x : D) : D := .tuple [.int ((lenD x).getD 0 : Nat), x]
theorem sortKeyLen_map : ∀ {xs ks : List D}, sortKeyLen xs = some ks → ks = xs.map keyOfD
  | [], ks, h => by cases h; rfl
  | x :: xs, ks, h => by
    unfold sortKeyLen at h
    rw [List.mapM_cons] at h
    cases hx : lenD x with
    | none => rw [hx] at h; cases h
    | some n =>
      rw [hx] at h
      cases hr : (xs.mapM fun x => (lenD x).map fun n => (.tuple [.int n, x] : D)) with
      | none => rw [hr] at h; cases h
      | some r =>
        rw [hr] at h
        cases h
        have := sortKeyLen_map (xs := xs) (ks := r) hr
        rw [List.map_cons, ← this]
        unfold keyOfD
        rw [hx]
        rfl
def extSrt (k : Ck) : RW.E → Expr → Bool
  | .srt e1, .Call (.Name x _) [a1] [⟨some kw, .Lambda params body scope _, _⟩] _ => decide (x = "sorted") && glB k x && decide (kw = "key") && pars1 "each" params && keySc scope && keyB body && chkEs { k with ext := fun _ _ => false } (.cons e1 .nil) [a1]
  | _, _ => false
theorem WsOk.one1 {C : DC} {L : Clo} {O : Ow} {φ : List Addr} {H : Hp} {vs : List V} {w : W} (h : WsOk C L O φ H vs [w]) : ∃ v, vs = [v] ∧ WOk C L O φ H v w := by
  match vs, h with
  | [v], h => exact ⟨v, rfl, h.1⟩
theorem each_and {C : DC} {O : Ow} {H : Hp} {h : Heap} : ∀ {us : List Value} {xs : List D}, EachIs (fun u x => ∃ w, RelV w u ∧ Dn C O H w x) us xs → EachIs (fun u x => ∃ as, Reads h u x as) us xs → EachIs (fun u x => (∃ w, RelV w u ∧ Dn C O H w x) ∧ ∃ as, Reads h u x as) us xs
  | _, _, .nil, .nil => .nil
  | _, _, .cons a t, .cons b r => .cons ⟨a, b⟩ (each_and t r)
section
variable {X : Cx} {C : DC} {nm : Nat → Option Str} {par : Nat → List Str} {ini : Nat} {kr : Nat → Bool} {call : Call} {k : Ck}
theorem srt_ext {cA Pt : Addr} (F : Fx C noL nm par ini kr call X) (NM : Nm C call noL nm par ini kr { k with ext := fun _ _ => false } X) (TB : LamX.TabB X.base X.mg cA Pt) (hcode : X.env.code = .ref cA) (hmT : (Pt, X.env.qual ++ "<lambda>") ∈ C.T) (hu : ∀ p ∈ C.T, p.1 = Pt → p.2 = X.env.qual ++ "<lambda>")
    (hdp : X.A.depth < recursionLimit) (hhd : X.A.handled = none) {e : RW.E} {a : Expr} (h : extSrt k e a = true) : PE X a (tE C noL (evE call e)) := by
  unfold extSrt at h
  split at h
  · rename_i e1 x p a1 kw params body scope lpos kpos pos
    simp only [Bool.and_eq_true] at h
    obtain ⟨⟨⟨⟨⟨⟨c1, c2⟩, c3⟩, c4⟩, c5⟩, c6⟩, c7⟩ := h
    have c1 := of_decide_eq_true c1
    have c3 := of_decide_eq_true c3
    subst c1 c3
    obtain ⟨n1, p1, rfl⟩ := pars1_of c4
    have PAx := chkEs_ok (.cons e1 .nil) _ X [a1] F NM c7
    have hns : notStar a1 = true := by
      have c7' := c7
      unfold chkEs at c7'
      simp only [Bool.and_eq_true] at c7'
      exact c7'.1.1
    refine ⟨fun pins s σ H Q I ⟨O, φ, S0, env, w', S', at_, e, hq⟩ => ?_⟩
    obtain ⟨w1, S1, e2, e⟩ := bd_eq (show bd (evE call e1 env S0) (fun x S => ob (rd S x) fun x => match x with
      | .list xs => ob (sortKeyLen xs) fun ks => if sortOk ks && xs.all tupA then some (W.d (.list (xs.mergeSort (dataLe false fun x => .tuple [.int ((lenD x).getD 0), x]))), S) else none
      | _ => none) = some (w', S') from e)
    obtain ⟨d, hd, e⟩ := ob_eq e
    split at e
    · rename_i xs
      obtain ⟨ks, hks, e⟩ := ob_eq e
      split at e
      · rename_i hso
        cases e
        rw [Bool.and_eq_true] at hso
        have hkm := sortKeyLen_map hks
        subst hkm
        obtain ⟨g1, g2, g3, g4⟩ := sortOk_and hso.1
        refine wpAny_Call_Name_kw (ld_blt I (NM.gl c2) (F.bm _ (by decide)) (by rfl) ?_ (by decide) (by decide))
        refine PyProof.Rows.callWith_kw (thn (PAx.run pos pins s σ H (fun vs H' => ∃ O' φ', Nxt O φ H O' φ' H' ∧ Sim C O' φ' H' S' ∧ WsOk C noL O' φ' H' vs [w1]) I ⟨O, φ, S0, env, [w1], S', at_, by
          show bd (evE call e1 env S0) (fun x S => bd (some ([], S)) fun xs S => some (x :: xs, S)) = _
          rw [e2]; rfl, fun vs O' φ' H' n sm wo => ⟨O', φ', n, sm, wo⟩⟩) fun us s1 ⟨vs, H1, I1, r1, O1, φ1, n1', sm1, wo1⟩ => ?_) (by rw [star_of hns]; rfl) (by rw [star_of hns]; rfl) rfl rfl
        obtain ⟨v1, rfl, wv1⟩ := wo1.one1
        obtain ⟨u1, rfl, ru⟩ := vals1 r1
        show wpAny _ _ (evalAll [(do let v ← eval (.Lambda ⟨[], [⟨"each", n1, p1⟩], none, [], [], none, []⟩ body scope lpos) X.env; standAt pos; pure v)]) _ _ s1
        refine wpAny_evalAll_cons (wpAny_bind (lam_make3 (T := C.T) I1 TB hcode hmT hu sm1.tb rfl (fun y hy e => ?_) fun f c' pm ctv H4 s4 I4 ln T4 ob no fr => wpAny_bind (wpAny_standAt (wpAny_pure (wpAny_evalAll_nil ?_)))))
        · unfold keySc at c5
          simp only [Bool.and_eq_true, Bool.not_eq_true', decide_eq_false_iff_not, List.all_eq_true] at c5
          exact absurd e (c5.1.1.2 y hy).2
        obtain ⟨nx4, sm4⟩ := lam_next sm1 ln T4
        have wo4 := wv1.mono sm1 nx4
        obtain ⟨l, ws, rfl, ha, t⟩ := (wo4.rd sm4 hd).list
        obtain ⟨its, rv, hl, _⟩ := I4.list (X := X) (SqL.of ha)
        cases ru
        have hall : xs.all okD = true := by
          rw [List.all_eq_true]
          intro x hx
          rw [List.all_eq_true] at g2
          have := g2 (keyOfD x) (List.mem_map.mpr ⟨x, hx, rfl⟩)
          have h1 := okD_and this
          have p1 : (keyOfD x).plain = true := h1.1
          have p2 : (keyOfD x).depth ≤ 60 := h1.2
          unfold keyOfD at p1 p2
          rw [PyData.plain, PyData.plainAll, PyData.plainAll, Bool.and_eq_true, Bool.and_eq_true] at p1
          rw [PyData.depth, PyData.depthAll, PyData.depthAll] at p2
          unfold okD
          rw [p1.2.1, Bool.true_and, decide_eq_true_eq]
          omega
        have er := DnA.eachR I4 F.hK t rv hall
        have tup : ∀ x ∈ xs, ∃ ys, x = .tuple ys ∧ ys.all atomB = true := fun x hx => by
          have := hso.2
          rw [List.all_eq_true] at this
          have := this x hx
          unfold tupA at this
          split at this
          · exact ⟨_, rfl, this⟩
          · cases this
        obtain ⟨pss, hP, ham⟩ := ln.1
        obtain ⟨ps2, a1', a2', a3'⟩ := T4 _ hmT
        have a1' : H4 Pt = some (.tbl ps2) := a1'
        rw [hP] at a1'
        cases a1'
        obtain ⟨c2', e2', hco⟩ := a3' lpos (.ref c') ham
        cases e2'
        obtain ⟨⟨oc, vsc, tk0, hoc, hdc, hvc⟩, _, _⟩ := I4.hok c' _ hco
        refine sorted_key_data (bs := xs) (R := fun u x => (∃ w, RelV w u ∧ Dn C O1 H4 w x) ∧ ∃ as, Reads s4.heap u x as) (f := .ref f) (b := false) keyOfD hl.isList (each_and (t.each rv) er) g1 g4 (by simpa using g3) (fun x hx => ?_) (PyProof.Rows.ksk_s1 _ _) (fun _ => PyProof.Rows.ksk_l1 _ _) (fun _ => PyProof.Rows.ksk_t1 _ _) (fun v x hR hx hh tk kp => ?_) fun out c h' tk kp fr' he' ho eo => ?_
        · rw [List.all_eq_true] at g2
          have := (okD_and (g2 _ (List.mem_map.mpr ⟨x, hx, rfl⟩))).2
          have := F.hu
          show X.A.units + 2 + (keyOfD x).depth < cLine
          omega
        · obtain ⟨ys, rfl, hat⟩ := tup x hx
          obtain ⟨as, hr⟩ := hR.2
          have hyl : ys.length ≤ sizeLine := by
            obtain ⟨w, rw', dw⟩ := hR.1
            obtain ⟨a', ws', rfl, ha', t'⟩ := (Rb.d dw).tuple F.hK
            obtain ⟨its', rv', hl', hz'⟩ := I4.tuple (X := X) ha'
            rw [← t'.length]; exact hz'
          exact key_turn (A := X.A.in1.in1) I4 c5 c6 (F.bm _ (by decide)) hdp hhd ob ⟨oc, vsc, tk0, hoc, hdc, hvc⟩ hyl kp (PyProof.Rows.Reads.keeps kp hr) hat
        · obtain ⟨vs', va, da⟩ := each_vals (eo.mono fun _ _ z => z.1)
          have hlen : vs'.length ≤ sizeLine := by rw [Vals.length va, ho]; simpa using g3
          have hf := I4.hok.fresh (Nat.le_succ s4.heap.objs.size)
          exact ⟨.ref _, upd H4 (s4.heap.objs.size + 1) (.lst vs'), I4.laid (t' := tk) kp (Nat.le_succ _) ⟨hlen, out, c, va, he'⟩, rfl, hq _ O1 φ1 _ (((n1'.trans at_.ow nx4)).trans at_.ow (Gr.new hf).nxt) (sm4.gr (.new hf)) (Dn.newList hf (fun a ha => let ⟨o, e, _⟩ := sm4.ow a ha; ⟨o, e⟩) da)⟩
      · cases e
    · cases e
  · cases h
end
end RW
set_option Elab.async false
set_option linter.all false
set_option maxRecDepth 100000
set_option maxHeartbeats 4000000
/-! the program's facts, from the head's -/
namespace RW
open PySem PySem.W PyProof.Rows L2
/-! ### parameters -/
theorem bind_self {x qual : Str} {n1 : Option Expr} {p1 : Pos} {body : List Stmt} {scope : Scope} {kV doc pm cdv ct : Value} {an : Option Addr} : ∀ us : List Value, us.length = (["self"] : List Str).length → bindArgs (PySem.W.fnOf x qual ⟨[], [⟨"self", n1, p1⟩], none, [], [], none, []⟩ body scope .none kV doc pm an cdv ct) ⟨us, []⟩ = pure ((["self"] : List Str).zip us)
  | [a], _ => rfl
/-! ### the class -/
def tys : List String := ["tuple", "list", "str", "int", "bool", "dict"]
def clsB (K : PySem.W.Frag) (A : Addr) : Bool := He.eqO (PySem.W.findIn K (.ref A) "__class__") (some (some (.builtin "object.__class__"))) && He.eqO (PySem.W.specialIn K (.builtin "object.__class__") "__get__") (some (some (.builtin "getset_descriptor.__get__"))) &&
  decide (PySem.W.takesIn K (.builtin "object.__class__") = some true) && decide (PySem.W.mroIn K A (.type "object") = some true) && (tys.all fun T => decide (PySem.W.kitOne K (.ref A) (.type T) = some false)) && (("NoneType" :: tys).all fun T => decide (PySem.W.kitOne K (.type T) (.ref A) = some false))
/-! ### the getters -/
def getB0 : List Stmt → Bool
  | [.Return (some (.Subscript (.Attribute (.Name s _) f _) (.Constant (.int 0) _ _) _)) _] => decide (s = "self") && decide (f = "all_told")
  | _ => false
def getB1 : List Stmt → Bool
  | [.Return (some (.Subscript (.Attribute (.Name s _) f _) (.Constant (.int 1) _ _) _)) _] => decide (s = "self") && decide (f = "all_told")
  | _ => false
def getB2 : List Stmt → Bool
  | [.Return (some (.Attribute (.Name s _) f _)) _] => decide (s = "self") && decide (f = "all_told")
  | _ => false
theorem getB0_of {b : List Stmt} (h : getB0 b = true) : ∃ p1 p2 kk p3 p4 p5, b = [.Return (some (.Subscript (.Attribute (.Name "self" p1) "all_told" p2) (.Constant (.int ((0 : Nat) : Int)) kk p3) p4)) p5] := by
  unfold getB0 at h
  split at h
  · simp only [Bool.and_eq_true, decide_eq_true_eq] at h
    obtain ⟨rfl, rfl⟩ := h
    exact ⟨_, _, _, _, _, _, rfl⟩
  · cases h
theorem getB1_of {b : List Stmt} (h : getB1 b = true) : ∃ p1 p2 kk p3 p4 p5, b = [.Return (some (.Subscript (.Attribute (.Name "self" p1) "all_told" p2) (.Constant (.int ((1 : Nat) : Int)) kk p3) p4)) p5] := by
  unfold getB1 at h
  split at h
  · simp only [Bool.and_eq_true, decide_eq_true_eq] at h
    obtain ⟨rfl, rfl⟩ := h
    exact ⟨_, _, _, _, _, _, rfl⟩
  · cases h
theorem getB2_of {b : List Stmt} (h : getB2 b = true) : ∃ p1 p2 p3, b = [.Return (some (.Attribute (.Name "self" p1) "all_told" p2)) p3] := by
  unfold getB2 at h
  split at h
  · simp only [Bool.and_eq_true, decide_eq_true_eq] at h
    obtain ⟨rfl, rfl⟩ := h
    exact ⟨_, _, _, rfl⟩
  · cases h
def getBody (k : Nat) (b : List Stmt) : Bool := if k = 0 then getB0 b else if k = 1 then getB1 b else getB2 b
def isNone : Value → Bool
  | .none => true
  | _ => false
theorem isNone_eq {v : Value} (h : isNone v = true) : v = .none := by
  cases v <;> first | rfl | cases h
def getFn (K : PySem.W.Frag) (k : Nat) (fd : FuncData) : Bool := PySem.W.codeIn K fd.code fd.qualname && decide (fd.globals = mainGlobals) && fd.closure.isEmpty && decide (fd.builtins = builtinsNs) && pars1 "self" fd.params && (match fd.body with
  | .stmts b => getBody k b
  | _ => false) && C8.scC ["self"] ["self"] fd.scope && isNone fd.defaults
def getB (K : PySem.W.Frag) (A : Addr) (f : Str) (k : Nat) : Bool := match PySem.W.findIn K (.ref A) f with
  | some (some (.ref p)) => He.eqO (PySem.W.specialIn K (.ref p) "__get__") (some (some (.builtin "property.__get__"))) && decide (PySem.W.takesIn K (.ref p) = some true) && (match PySem.W.recIn K p "property" with
    | some (.ref g :: _) => (match K.lookup g with
      | some ⟨_, _, .func fd, _⟩ => getFn K k fd
      | _ => false)
    | _ => false)
  | _ => false
section
variable {P : Program} {w : World} {K : PySem.W.Frag} {mg : Str → Option Value} {base : Heap} {C : DC} {A : Addr}
theorem dcok_of (hK : C.K = K) (only : ∀ c B, C.cls c = some B → c = "Web" ∧ B = A) (c : Cls K A) (h : clsB K A = true) : DCok C := by
  unfold clsB at h
  simp only [Bool.and_eq_true, List.all_eq_true, decide_eq_true_eq] at h
  obtain ⟨⟨⟨⟨⟨h1, h2⟩, h3⟩, h4⟩, h5⟩, h6⟩ := h
  subst hK
  refine ⟨fun c B e => (only c B e).1, fun c' B e => ?_, fun c' B e T hT => ?_, fun B e T hT => ?_⟩
  · obtain ⟨_, rfl⟩ := only c' B e
    exact ⟨c, He.eqO_ok h1, He.eqO_ok h2, h3, h4⟩
  · obtain ⟨_, rfl⟩ := only c' B e
    exact h5 T (by unfold tys; rcases hT with rfl | rfl | rfl | rfl | rfl | rfl <;> simp)
  · obtain ⟨_, rfl⟩ := only _ B e
    exact h6 T (by unfold tys; rcases hT with rfl | rfl | rfl | rfl | rfl | rfl | rfl <;> simp)
theorem get_of (hK : C.K = K) (ok : DCok C) (hA : C.cls "Web" = some A) (hna : NoAttr K A "all_told") {f : Str} {k : Nat} (hk : k = 0 ∧ f = "places" ∨ k = 1 ∧ f = "ties" ∨ k = 2 ∧ f = "parts") (h : getB K A f k = true) : GetOk P w K mg base C A f := by
  unfold getB at h
  split at h
  · rename_i p e1
    rw [Bool.and_eq_true, Bool.and_eq_true] at h
    obtain ⟨⟨h1, h2⟩, h3⟩ := h
    split at h3
    · rename_i g rest e2
      split at h3
      · rename_i oc od fd osl e3
        unfold getFn at h3
        simp only [Bool.and_eq_true, decide_eq_true_eq] at h3
        obtain ⟨⟨⟨⟨⟨⟨⟨c1, c2⟩, c3⟩, c4⟩, c5⟩, c6⟩, c7⟩, c8⟩ := h3
        obtain ⟨name, qual, params, body, scope, gl, cl, dV, kV, doc, pm, an, cd, ct, bi⟩ := fd
        simp only at c1 c2 c3 c4 c5 c6 c7 c8
        have c3 := List.isEmpty_iff.mp c3
        have c8 := isNone_eq c8
        subst c2 c3 c4 c8
        cases body with
        | stmts b =>
          simp only at c6
          obtain ⟨n1, p1, rfl⟩ := pars1_of c5
          have S := C8.fnScope_by c7
          refine ⟨p, g, PySem.W.fnOf name qual ⟨[], [⟨"self", n1, p1⟩], none, [], [], none, []⟩ b scope .none kV doc pm an cd ct, ⟨e1, He.eqO_ok h1, of_decide_eq_true h2, rest, e2⟩, ?_, Binds.all bind_self⟩
          rcases hk with ⟨rfl, rfl⟩ | ⟨rfl, rfl⟩ | ⟨rfl, rfl⟩
          · obtain ⟨q1, q2, kk, q3, q4, q5, rfl⟩ := getB0_of c6
            exact get_ix hK ok hA hna e3 c1 S rfl 0 (.inl ⟨rfl, rfl⟩) rfl
          · obtain ⟨q1, q2, kk, q3, q4, q5, rfl⟩ := getB1_of c6
            exact get_ix hK ok hA hna e3 c1 S rfl 1 (.inr ⟨rfl, rfl⟩) rfl
          · obtain ⟨q1, q2, q3, rfl⟩ := getB2_of c6
            exact get_all hK ok hA hna e3 c1 S rfl rfl
        | _ => cases c6
      · cases h3
    · cases h3
  · cases h
end
/-! ### the module's constants -/
def strV : List D → Option (List He.Dv)
  | [] => some []
  | .str x :: r => (strV r).map (.str x :: ·)
  | _ => none
def gvB (K : PySem.W.Frag) (x : Str) : Bool := match GV x with
  | some (.int i) => (He.Fa.int x i).ok K
  | some (.str z) => (He.Fa.str x z).ok K
  | some (.tuple xs) => decide (4 ≤ xs.length) && (He.Fa.glo x).ok K && (match strV xs with
    | some vs => He.tupB K x vs
    | none => false)
  | none => true
  | _ => false
theorem strV_ok {K : PySem.W.Frag} {C : DC} {O : Ow} {H : Hp} : ∀ {xs : List D} {vs : List He.Dv}, strV xs = some vs → DnA C O H (vs.map (He.Dv.v K)) xs
  | [], vs, e => by cases e; exact .nil
  | x :: r, vs, e => by
    unfold strV at e
    split at e
    · rename_i h; cases h
    · rename_i y r' h
      cases h
      obtain ⟨l, e1, rfl⟩ := Option.map_eq_some_iff.mp e
      exact .cons (.str y) (strV_ok e1)
    · cases e
theorem gv_of {K : PySem.W.Frag} {h : Heap} {mg : Str → Option Value} {C : DC} (hK : C.K = K) (X : K.In h) (G : h.Ns mainGlobals mg) {x : Str} {y : D} (c : gvB K x = true) (e : GV x = some y) : ∃ v u, mg x = some u ∧ RelV v u ∧ ∀ O H, Dn C O H v y := by
  unfold gvB at c
  rw [e] at c
  cases y with
  | int i =>
    obtain ⟨t, e1⟩ := He.int_ok X G c
    exact ⟨.int i, _, e1, ⟨t, rfl⟩, fun _ _ => .int i⟩
  | str z =>
    obtain ⟨t, e1⟩ := He.str_ok X G c
    exact ⟨.str z, _, e1, ⟨t, rfl⟩, fun _ _ => .str z⟩
  | tuple xs =>
    simp only [Bool.and_eq_true, decide_eq_true_eq] at c
    obtain ⟨⟨c1, c2⟩, c3⟩ := c
    split at c3
    · rename_i vs ev
      refine ⟨.ref (He.ga K x), _, He.glo_ok X G c2, rfl, fun O H => ?_⟩
      have q := He.tupB_ok c3 (fun _ => none)
      exact .tupK (by rw [hK]; exact q) c1 (strV_ok ev)
    · cases c3
  | _ => cases c
end RW
set_option Elab.async false
set_option linter.all false
set_option maxRecDepth 100000
set_option maxHeartbeats 4000000
namespace RW
open PySem PySem.W PyProof.Rows L2
/-- a def's lambda -/
inductive Lk where
  | no
  | lam (g : Nat) (fdl : RW.FnD) (le : RW.E) (cs : List Nat) (l : Nat)
  | srt
/-- a program: its defs' texts and core terms -/
structure Pg where
  FN : Nat → Option RW.FnD
  ds : List (Nat × Str × Stmt)
  ist : Stmt
  ini : Nat
  kr : Nat → Bool
  tf : List He.Defn
  gvs : List Str
  lk : Nat → Lk
namespace Pg
def nm (p : Pg) (f : Nat) : Option Str := (p.ds.find? fun d => d.1 == f).map (·.2.1)
def st (p : Pg) (f : Nat) : Stmt := if f = p.ini then p.ist else ((p.ds.find? fun d => d.1 == f).map (·.2.2)).getD (.Pass ⟨0, 0, 0, 0⟩)
def at_ (p : Pg) (f : Nat) : He.Defn := if f = p.ini then ("Web", some "__init__") else ((p.nm f).getD "", none)
def name (p : Pg) (f : Nat) : Str := if f = p.ini then "__init__" else (p.nm f).getD ""
def qual (p : Pg) (f : Nat) : Str := if f = p.ini then "Web.__init__" else (p.nm f).getD ""
def par (p : Pg) (f : Nat) : List Str := ((p.FN f).map fun fd => fd.N.take fd.np).getD []
def dd (p : Pg) (f : Nat) : He.DefD := ⟨p.at_ f, p.name f, p.qual f, C8.fnArgs (p.st f), C8.fnBody (p.st f), C8.fnScope (p.st f), [], []⟩
def fids (p : Pg) : List Nat := p.ini :: p.ds.map (·.1)
def fn (p : Pg) : List He.DefD := p.fids.map p.dd
def fa (p : Pg) : List He.Fa := bnames.map .free ++ p.ds.map (fun d => .glo d.2.1) ++ [.glo "Web", .mkr "Web", .cls "Web", .noat "Web" "all_told"]
def ex (p : Pg) (K : PySem.W.Frag) : Bool := clsB K (He.ga K "Web") && getB K (He.ga K "Web") "places" 0 && getB K (He.ga K "Web") "ties" 1 && getB K (He.ga K "Web") "parts" 2 && p.gvs.all (gvB K) && decide ((p.tf.map fun q => (He.cT K q).2).Nodup)
def adr (p : Pg) (K : PySem.W.Frag) (f : Nat) : Addr := He.fAd K (p.at_ f)
def fdt (p : Pg) (K : PySem.W.Frag) (f : Nat) : FuncData := match K.lookup (p.adr K f) with
  | some ⟨_, _, .func fd, _⟩ => fd
  | _ => default
def dc (p : Pg) (K : PySem.W.Frag) : DC := ⟨K, fun c => if c = "Web" then some (He.ga K "Web") else none, fun n => (p.nm n.toNat).map fun _ => p.adr K n.toNat, p.tf.map fun q => ((He.cT K q).2, q.1 ++ ".<locals>." ++ "<lambda>")⟩
def ck0 (p : Pg) (f : Nat) (fd : RW.FnD) (lc : Bool) : Ck := ⟨fd.N, C8.fnScope (p.st f), fun _ => true, p.nm, p.par, p.ini, p.kr, lc, fun _ _ => false, p.gvs⟩
def ext (p : Pg) (f : Nat) (fd : RW.FnD) : RW.E → Expr → Bool := match p.lk f with
  | .no => fun _ _ => false
  | .lam g fdl le cs l => extLam (p.ck0 f fd true) g (p.name g) fdl le cs l
  | .srt => extSrt (p.ck0 f fd true)
def ck (p : Pg) (f : Nat) (fd : RW.FnD) : Ck := { p.ck0 f fd true with ext := p.ext f fd }
def okDef (p : Pg) (f : Nat) : Bool := match p.FN f with
  | some fd => fd.nat.isNone && chkTs (p.ck f fd) fd.body (C8.fnBody (p.st f)) && C8.scC fd.N (p.par f) (C8.fnScope (p.st f)) && decide ((p.par f).length = fd.np)
  | none => false
def okLam (p : Pg) (g : Nat) : Bool := match p.FN g with
  | some fd => chkTs (p.ck0 g fd false) fd.body (C8.fnBody (p.st g)) && !fd.keep
  | none => false
def Bd (p : Pg) (f : Nat) : Prop := ∀ (kV doc pm cdv ct : Value) (an : Option Addr) (us : List Value), us.length = (p.par f).length → bindArgs (PySem.W.fnOf (p.name f) (p.qual f) (C8.fnArgs (p.st f)) (C8.fnBody (p.st f)) (C8.fnScope (p.st f)) .none kV doc pm an cdv ct) ⟨us, []⟩ = pure ((p.par f).zip us)
structure Ok (p : Pg) : Prop where
  iniN : p.nm p.ini = none
  krini : p.kr p.ini = false
  bind : ∀ f ∈ p.fids, p.Bd f
  krv : ∀ f, p.kr f = true → ∀ (kV doc pm cdv ct : Value) (an : Option Addr), KRev (PySem.W.fnOf (p.name f) (p.qual f) (C8.fnArgs (p.st f)) (C8.fnBody (p.st f)) (C8.fnScope (p.st f)) .none kV doc pm an cdv ct) (p.par f)
  chk : p.fids.all p.okDef = true
  lam : ∀ f g fdl le cs l, p.lk f = .lam g fdl le cs l → p.FN l = some fdl ∧ fdl.nat = none ∧ fdl.body = .cons (.ret le) .nil ∧ fdl.keep = false ∧ fdl.np = cs.length + 2 ∧ (p.nm g).isSome = true ∧ p.okLam g = true
  lamT : ∀ f, (p.lk f = .no) ∨ (p.at_ f ∈ p.tf ∧ f ≠ p.ini)
end Pg
theorem bdn0 {ps : List Str} {fd : FuncData} (h : bindArgs fd ⟨[], []⟩ = pure (ps.zip [])) (hl : ps.length = 0) : ∀ us : List Value, us.length = ps.length → bindArgs fd ⟨us, []⟩ = pure (ps.zip us)
  | [], _ => h
  | _ :: _, z => by rw [hl] at z; cases z
theorem bdn1 {ps : List Str} {fd : FuncData} (h : ∀ a, bindArgs fd ⟨[a], []⟩ = pure (ps.zip [a])) (hl : ps.length = 1) : ∀ us : List Value, us.length = ps.length → bindArgs fd ⟨us, []⟩ = pure (ps.zip us)
  | [a], _ => h a
  | [], z => by rw [hl] at z; cases z
  | _ :: _ :: _, z => by rw [hl] at z; simp at z
theorem bdn2 {ps : List Str} {fd : FuncData} (h : ∀ a b, bindArgs fd ⟨[a, b], []⟩ = pure (ps.zip [a, b])) (hl : ps.length = 2) : ∀ us : List Value, us.length = ps.length → bindArgs fd ⟨us, []⟩ = pure (ps.zip us)
  | [a, b], _ => h a b
  | [], z => by rw [hl] at z; cases z
  | [_], z => by rw [hl] at z; simp at z
  | _ :: _ :: _ :: _, z => by rw [hl] at z; simp at z
theorem bdn3 {ps : List Str} {fd : FuncData} (h : ∀ a b c, bindArgs fd ⟨[a, b, c], []⟩ = pure (ps.zip [a, b, c])) (hl : ps.length = 3) : ∀ us : List Value, us.length = ps.length → bindArgs fd ⟨us, []⟩ = pure (ps.zip us)
  | [a, b, c], _ => h a b c
  | [], z => by rw [hl] at z; cases z
  | [_], z => by rw [hl] at z; simp at z
  | [_, _], z => by rw [hl] at z; simp at z
  | _ :: _ :: _ :: _ :: _, z => by rw [hl] at z; simp at z
theorem bdn4 {ps : List Str} {fd : FuncData} (h : ∀ a b c d, bindArgs fd ⟨[a, b, c, d], []⟩ = pure (ps.zip [a, b, c, d])) (hl : ps.length = 4) : ∀ us : List Value, us.length = ps.length → bindArgs fd ⟨us, []⟩ = pure (ps.zip us)
  | [a, b, c, d], _ => h a b c d
  | [], z => by rw [hl] at z; cases z
  | [_], z => by rw [hl] at z; simp at z
  | [_, _], z => by rw [hl] at z; simp at z
  | [_, _, _], z => by rw [hl] at z; simp at z
  | _ :: _ :: _ :: _ :: _ :: _, z => by rw [hl] at z; simp at z
section
variable {p : Pg} {w : World} {h : Heap} {K : PySem.W.Frag} {mg : Str → Option Value} {P : Program} {base : Heap}
theorem Pg.nm_mem {f : Nat} {x : Str} (e : p.nm f = some x) : ∃ s, (f, x, s) ∈ p.ds := by
  unfold Pg.nm at e
  obtain ⟨d, hd, rfl⟩ := Option.map_eq_some_iff.mp e
  have h1 := List.mem_of_find?_eq_some hd
  have h2 := List.find?_some hd
  have h2 : d.1 = f := by simpa using h2
  subst h2
  exact ⟨d.2.2, h1⟩
theorem Pg.mem (ok : p.Ok) {f : Nat} (hf : (p.nm f).isSome = true ∨ f = p.ini) : f ∈ p.fids := by
  unfold Pg.fids
  rcases hf with e | rfl
  · cases q : p.nm f with
    | none => rw [q] at e; cases e
    | some x =>
      obtain ⟨s, hm⟩ := Pg.nm_mem q
      exact List.mem_cons_of_mem _ (List.mem_map.mpr ⟨_, hm, rfl⟩)
  · exact List.mem_cons_self
structure Pg.Fd (p : Pg) (K : PySem.W.Frag) (f : Nat) : Prop where
  ex : ∃ (oc : Value) (od : Option Addr) (kV doc pm : Value) (an : Option Addr) (cdv ct : Value) (osl : Array (Option Value)),
    p.fdt K f = PySem.W.fnOf (p.name f) (p.qual f) (C8.fnArgs (p.st f)) (C8.fnBody (p.st f)) (C8.fnScope (p.st f)) .none kV doc pm an cdv ct ∧ K.lookup (p.adr K f) = some ⟨oc, od, .func (PySem.W.fnOf (p.name f) (p.qual f) (C8.fnArgs (p.st f)) (C8.fnBody (p.st f)) (C8.fnScope (p.st f)) .none kV doc pm an cdv ct), osl⟩ ∧ PySem.W.codeIn K cdv (p.qual f) = true
  kp : PySem.W.keepIn K (.ref (p.adr K f)) = true
theorem Pg.fd (he : He.SaysX p.fa p.fn [] p.tf p.ex w h K) {f : Nat} (hf : f ∈ p.fids) : p.Fd K f := by
  obtain ⟨fd, F⟩ := He.SaysD.defs he.t.d (d := p.dd f) (List.mem_map.mpr ⟨f, hf, rfl⟩)
  obtain ⟨oc, od, dV, kV, doc, pm, an, cdv, ct, osl, e, lk, hcd, hdv, _⟩ := F.ex
  have hd : dV = .none := by
    rcases hdv with ⟨_, z⟩ | ⟨z, _⟩
    · exact z
    · exact absurd rfl z
  subst hd
  have lk : K.lookup (p.adr K f) = some ⟨oc, od, .func fd, osl⟩ := lk
  refine ⟨⟨oc, od, kV, doc, pm, an, cdv, ct, osl, ?_, by rw [lk, e]; rfl, hcd⟩, F.kp⟩
  unfold Pg.fdt
  rw [lk]
  exact e
theorem Pg.adr_ini (p : Pg) : p.adr K p.ini = He.ma K (He.ga K "Web") "__init__" := by
  unfold Pg.adr Pg.at_
  rw [if_pos rfl]
  rfl
theorem Pg.at_nm (ok : p.Ok) {f : Nat} {x : Str} (e : p.nm f = some x) : f ≠ p.ini ∧ p.at_ f = (x, none) ∧ p.name f = x ∧ p.qual f = x := by
  have hn : f ≠ p.ini := fun z => by rw [z, ok.iniN] at e; cases e
  unfold Pg.at_ Pg.name Pg.qual
  rw [if_neg hn, if_neg hn, if_neg hn, e]
  exact ⟨hn, rfl, rfl, rfl⟩
theorem Pg.adr_nm (ok : p.Ok) {f : Nat} {x : Str} (e : p.nm f = some x) : p.adr K f = He.ga K x := by
  unfold Pg.adr
  rw [(Pg.at_nm ok e).2.1]
  rfl
theorem Pg.fact (he : He.SaysX p.fa p.fn [] p.tf p.ex w h K) {a : He.Fa} (ha : a ∈ p.fa) : a.ok K = true := He.SaysD.facts he.t.d ha
theorem Pg.binds (ok : p.Ok) (he : He.SaysX p.fa p.fn [] p.tf p.ex w h K) {f : Nat} (hf : f ∈ p.fids) : Binds K (p.fdt K f) (p.par f) [] := by
  obtain ⟨⟨oc, od, kV, doc, pm, an, cdv, ct, osl, e, _, _⟩, _⟩ := Pg.fd he hf
  rw [e]
  exact Binds.all (ok.bind f hf kV doc pm cdv ct an)
theorem Pg.fc (ok : p.Ok) (he : He.SaysX p.fa p.fn [] p.tf p.ex w h K) (KX : K.In h) (G : h.Ns mainGlobals mg) : Fc P w K mg base (p.dc K) p.nm p.par p.ini p.kr (p.adr K) (p.fdt K) := by
  have hm := he.more
  unfold Pg.ex at hm
  simp only [Bool.and_eq_true, List.all_eq_true, decide_eq_true_eq] at hm
  obtain ⟨⟨⟨⟨⟨m1, m2⟩, m3⟩, m4⟩, m5⟩, m6⟩ := hm
  have gl : ∀ {a}, a ∈ [He.Fa.glo "Web", .mkr "Web", .cls "Web", .noat "Web" "all_told"] → a.ok K = true := fun {a} ha => Pg.fact he (by
    unfold Pg.fa
    exact List.mem_append_right _ ha)
  have hC : ∀ c B, (p.dc K).cls c = some B → c = "Web" ∧ B = He.ga K "Web" := fun c B e => by
    have e : (if c = "Web" then some (He.ga K "Web") else none) = some B := e
    split at e
    · rename_i hc
      cases e
      exact ⟨hc, rfl⟩
    · cases e
  have hW : (p.dc K).cls "Web" = some (He.ga K "Web") := by
    show (if ("Web" : Str) = "Web" then some (He.ga K "Web") else none) = some (He.ga K "Web")
    exact if_pos rfl
  have hok : DCok (p.dc K) := dcok_of rfl hC (He.cls_ok (gl (by simp))) m1
  have hna : NoAttr K (He.ga K "Web") "all_told" := He.noat_ok (gl (by simp))
  have hmk : Mk K (He.ga K "Web") (p.adr K p.ini) := by rw [Pg.adr_ini]; exact He.mkr_ok (gl (by simp))
  refine ⟨rfl, hok, fun x hx => He.free_ok KX G (Pg.fact he (by unfold Pg.fa; simp [hx])), fun f x hf => ?_, fun n a ha => ?_, ?_, fun f A hp hA => ?_, fun c A hA => by rw [(hC c A hA).2]; exact hna⟩
  · obtain ⟨s, hs⟩ := Pg.nm_mem hf
    have hmem : f ∈ p.fids := Pg.mem ok (.inl (by rw [hf]; rfl))
    refine ⟨?_, ?_, (Pg.fd he hmem).kp, Pg.binds ok he hmem, fun hk => ?_⟩
    · rw [Pg.adr_nm ok hf]
      exact He.glo_ok KX G (Pg.fact he (by
        unfold Pg.fa
        exact List.mem_append_left _ (List.mem_append_right _ (List.mem_map.mpr ⟨_, hs, rfl⟩))))
    · show (p.nm ((f : Int).toNat)).map (fun _ => p.adr K (f : Int).toNat) = _
      rw [Int.toNat_natCast, hf]
      rfl
    · obtain ⟨⟨oc, od, kV, doc, pm, an, cdv, ct, osl, e, _, _⟩, _⟩ := Pg.fd he hmem
      rw [e]
      exact ok.krv f hk kV doc pm cdv ct an
  · have ha : (p.nm n.toNat).map (fun _ => p.adr K n.toNat) = some a := ha
    obtain ⟨x, hx, rfl⟩ := Option.map_eq_some_iff.mp ha
    exact ⟨x, hx, rfl⟩
  · exact ⟨_, He.glo_ok KX G (gl (by simp)), hW, hmk, Pg.binds ok he (Pg.mem ok (.inr rfl)), fun z => by rw [ok.krini] at z; cases z⟩
  · obtain ⟨_, rfl⟩ := hC _ A hA
    unfold partB at hp
    simp only [Bool.or_eq_true, decide_eq_true_eq] at hp
    rcases hp with (rfl | rfl) | rfl
    · exact get_of rfl hok hW hna (.inl ⟨rfl, rfl⟩) m2
    · exact get_of rfl hok hW hna (.inr (.inl ⟨rfl, rfl⟩)) m3
    · exact get_of rfl hok hW hna (.inr (.inr ⟨rfl, rfl⟩)) m4
end
end RW
set_option Elab.async false
set_option linter.all false
set_option maxRecDepth 100000
set_option maxHeartbeats 4000000
namespace RW
open PySem PySem.W PyProof.Rows L2
section
variable {p : Pg} {w : World} {h : Heap} {K : PySem.W.Frag} {mg : Str → Option Value} {P : Program} {base : Heap}
theorem nodup_fst {α β : Type} {f : β → α} {g : β → Str} : ∀ {l : List β}, (l.map f).Nodup → ∀ {q : β}, q ∈ l → ∀ r ∈ l, f r = f q → g r = g q
  | [], _, _, hq, _, _, _ => by cases hq
  | a :: l, hn, q, hq, r, hr, e => by
    rw [List.map_cons, List.nodup_cons] at hn
    have key : ∀ x ∈ l, f x ≠ f a := fun x hx z => hn.1 (z ▸ List.mem_map.mpr ⟨x, hx, rfl⟩)
    rcases List.mem_cons.mp hq with h1 | h1
    · rcases List.mem_cons.mp hr with h2 | h2
      · rw [h1, h2]
      · exact absurd (by rw [e, h1]) (key r h2)
    · rcases List.mem_cons.mp hr with h2 | h2
      · exact absurd (by rw [← e, h2]) (key q h1)
      · exact nodup_fst hn.2 h1 r h2 e
theorem Pg.all (ok : p.Ok) (he : He.SaysX p.fa p.fn [] p.tf p.ex w h K) (KX : K.In h) (G : h.Ns mainGlobals mg) (TB : ∀ q ∈ p.tf, LamX.TabB base mg (He.cT K q).1 (He.cT K q).2) (n m : Nat) (hm : m ≤ n) :
    AllFn P w K mg base (p.dc K) p.nm p.par p.ini (p.adr K) (p.fdt K) m (callN p.FN none m) := by
  have FC : Fc P w K mg base (p.dc K) p.nm p.par p.ini p.kr (p.adr K) (p.fdt K) := Pg.fc ok he KX G
  have hmo := he.more
  unfold Pg.ex at hmo
  simp only [Bool.and_eq_true, List.all_eq_true, decide_eq_true_eq] at hmo
  obtain ⟨⟨_, m5⟩, m6⟩ := hmo
  have hgv : ∀ x y, x ∈ p.gvs → GV x = some y → ∃ v u, mg x = some u ∧ RelV v u ∧ ∀ O H, Dn (p.dc K) O H v y := fun x y hx e => gv_of rfl KX G (m5 x hx) e
  refine all_fn (fun n all f hf => ?_) n m hm
  have hmem := Pg.mem ok hf
  obtain ⟨⟨oc, od, kV, doc, pm, an, cdv, ct, osl, efd, lk, hcd⟩, _⟩ := Pg.fd he hmem
  have hc := List.all_eq_true.mp ok.chk f hmem
  unfold Pg.okDef at hc
  split at hc
  · rename_i fd hF
    simp only [Bool.and_eq_true, decide_eq_true_eq, Option.isNone_iff_eq_none] at hc
    obtain ⟨⟨⟨c1, c2⟩, c3⟩, c4⟩ := hc
    refine step_fn (ps := p.par f) (ck := p.ck f fd) FC (all n (Nat.le_refl _)) hF c1 lk efd hcd (C8.fnScope_by c3) c4 c2 rfl rfl rfl rfl rfl rfl rfl ?_ hgv
    intro A outer s H E hr e a hext
    have hext : p.ext f fd e a = true := hext
    have S := C8.fnScope_by c3
    rcases ok.lamT f with hno | ⟨hT, hni⟩
    · unfold Pg.ext at hext
      rw [hno] at hext
      cases hext
    · obtain ⟨x, hx⟩ : ∃ x, p.nm f = some x := by
        rcases hf with z | z
        · cases q : p.nm f with
          | none => rw [q] at z; cases z
          | some x => exact ⟨x, rfl⟩
        · exact absurd z hni
      obtain ⟨_, e1, e2, e3⟩ := Pg.at_nm ok hx
      obtain ⟨cA, rfl⟩ := He.codeIn_ref hcd
      have hcA : He.codeOf K (p.at_ f) = cA := He.codeOf_eq lk rfl
      have hTB := TB _ hT
      have hcode : (He.cT K (p.at_ f)).1 = cA := hcA
      rw [hcode] at hTB
      have hm1 : ((He.cT K (p.at_ f)).2, p.qual f ++ ".<locals>." ++ "<lambda>") ∈ (p.dc K).T := List.mem_map.mpr ⟨p.at_ f, hT, by rw [e1, e3]⟩
      have hu : ∀ q ∈ (p.dc K).T, q.1 = (He.cT K (p.at_ f)).2 → q.2 = p.qual f ++ ".<locals>." ++ "<lambda>" := fun q hq e => by
        obtain ⟨r, hr, rfl⟩ := List.mem_map.mp hq
        have := nodup_fst (f := fun q => (He.cT K q).2) (g := fun q : He.Defn => q.1) m6 hT r hr e
        show r.1 ++ _ ++ _ = _
        rw [this, e1, e3]
      have NM : ∀ call, Nm (p.dc K) call noL p.nm p.par p.ini p.kr { p.ck0 f fd true with ext := fun _ _ => false } (cxOf C8.CX0 P w K mg base fd.N (p.qual f) (C8.fnScope (p.st f)) (p.adr K f) (.ref cA) A outer s H E).nox := fun call => ⟨rfl, rfl, rfl, rfl, fun _ a j cs z => z, rfl, rfl, rfl, (fun e a z => nomatch (show false = true from z)), hgv⟩
      unfold Pg.ext at hext
      cases hlk : p.lk f with
      | no => rw [hlk] at hext; cases hext
      | lam g fdl le cs l =>
        rw [hlk] at hext
        simp only at hext
        obtain ⟨l1, l2, l3, l4, l5, l6, l7⟩ := ok.lam f g fdl le cs l hlk
        unfold Pg.okLam at l7
        split at l7
        · rename_i fdg hFg
          simp only [Bool.and_eq_true, Bool.not_eq_true'] at l7
          obtain ⟨gn, hgn⟩ : ∃ x, p.nm g = some x := by
            cases q : p.nm g with
            | none => rw [q] at l6; cases l6
            | some x => exact ⟨x, rfl⟩
          have hgm := Pg.mem ok (.inl l6)
          have hcg := List.all_eq_true.mp ok.chk g hgm
          unfold Pg.okDef at hcg
          rw [hFg] at hcg
          simp only [Bool.and_eq_true, decide_eq_true_eq, Option.isNone_iff_eq_none] at hcg
          obtain ⟨⟨⟨d1, d2⟩, d3⟩, d4⟩ := hcg
          obtain ⟨⟨oc', od', kV', doc', pm', an', cdv', ct', osl', efd', lk', hcd'⟩, _⟩ := Pg.fd he hgm
          obtain ⟨_, _, g2, g3⟩ := Pg.at_nm ok hgn
          rw [g2, g3] at lk' efd'
          rw [g3] at hcd'
          rw [g2] at hext
          exact lam_ext (FN := p.FN) (n := n) (g := g) (l0 := l) (gn := gn) (fdl := fdl) (fdg := fdg) (le := le) (cs0 := cs) (k := p.ck0 f fd true) (ckg := p.ck0 g fdg false) (stg := p.st g) (cA := cA) (Pt := (He.cT K (p.at_ f)).2) FC all rfl rfl rfl rfl rfl rfl S.nd hr NM hFg d1 l1 l2 l3 l4 l5 hgn
            ⟨oc', od', .none, kV', doc', pm', an', cdv', ct', osl', efd', by rw [efd']; exact lk', hcd'⟩ (C8.fnScope_by d3) d4 l7.2 l7.1 rfl rfl rfl rfl rfl rfl rfl rfl rfl hgv hgv hTB rfl hm1 hu hext
        · cases l7
      | srt =>
        rw [hlk] at hext
        exact srt_ext (k := p.ck0 f fd true) (FC.fx (all n (Nat.le_refl _)) rfl rfl rfl rfl rfl rfl S.nd hr (L := noL) fun a k cs z => z.elim) (NM _) hTB rfl hm1 hu hr.depth hr.hd hext
  · cases hc
/-! ### the law -/
theorem pg_walk {l : PySem.W.OpenLaw} {q : Program} {loose : List Str} {XP : (Str → Option Value) → Heap → Prop} {d : DefRec} {f x : Nat} {xs : Str} {nx : Nat} (ok : p.Ok)
    (hn : l.most = some nx) (hn2 : nx ≤ sizeLine) (hdf : d.params.defaults = []) (hnm : p.nm f = some d.name) (hpar : p.par f = [xs]) {m : Nat} (hr : Room (lv m) callerA)
    (law : ∀ ns : List Int, ns.length ≤ nx → callN p.FN none m f [.scr ns] [] = some (.d (.bool true), [])) :
    PySem.W.WalkO q loose XP (He.hookX 5 p.fa p.fn [] p.tf p.ex).says l.row.toRowW d [] (fun f vs => PySem.call f vs) := by
  refine LamX.walk_ofTsE (CX := fun _ => C8.CX0) (k := lv m) (x := xs) hn hn2 hdf hr (fun w mg fa h Y G hmg => ?_) (fun w H s e s' z => z)
  obtain ⟨K, KX, he⟩ := Y
  have hmem := Pg.mem ok (f := f) (.inl (by rw [hnm]; rfl))
  have FC : Fc l.prog w K mg h (p.dc K) p.nm p.par p.ini p.kr (p.adr K) (p.fdt K) := Pg.fc ok he KX G
  have hfa : fa = p.adr K f := by
    have := (FC.fn f _ hnm).1
    rw [hmg] at this
    cases this
    rfl
  refine ⟨K, KX, p.fdt K f, p.tf.map (He.cT K), spC (p.dc K) noL (callN p.FN none m f), fun q hq => ?_, fun q hq => ?_, fun q hq => ?_, fun s u => ?_, fun H a ns hl hb hT hS => ?_, fun base KB GB TB => ?_⟩
  · obtain ⟨r, hr, rfl⟩ := List.mem_map.mp hq
    exact he.empty r hr
  · obtain ⟨r, hr, rfl⟩ := List.mem_map.mp hq
    exact he.out r hr
  · obtain ⟨r, hr, rfl⟩ := List.mem_map.mp hq
    exact PySem.W.codeHd_of_K KX (he.hd r hr)
  · have := Pg.binds ok he hmem
    obtain ⟨⟨oc, od, kV, doc, pm, an, cdv, ct, osl, e, _, _⟩, _⟩ := Pg.fd he hmem
    rw [e]
    have hb := ok.bind f hmem kV doc pm cdv ct an [u] (by rw [hpar]; rfl)
    rw [hpar] at hb
    exact .of_eq hb
  · refine ⟨fun _ => False, [], [], [.scr ns], _, [], ⟨rfl, List.nodup_nil, (fun i mo a e => by simp at e), (fun a z => z.elim), (fun a z => by cases z), fun r hr => ?_⟩, ⟨⟨a, rfl, ?_⟩, True.intro⟩, law ns hl, fun v O' φ' H' _ _ wv => ?_⟩
    · obtain ⟨r', hr', rfl⟩ := List.mem_map.mp hr
      exact LamX.TabS.nil (hT _ (List.mem_map.mpr ⟨r', hr', rfl⟩))
    · rcases hS with (e | ⟨o, e⟩) | z
      · exact .inr ⟨_, id, e, .inl rfl⟩
      · exact .inr ⟨_, id, e, .inr ⟨o, rfl⟩⟩
      · exact .inl (.inr z)
    · cases wk_d wv
      rfl
  · rw [hfa, ← hpar]
    exact Pg.all (P := l.prog) (base := base) ok he KX G (fun r hr => TB _ (List.mem_map.mpr ⟨r, hr, rfl⟩)) m m (Nat.le_refl _) f (.inl (by rw [hnm]; rfl))
end
end RW
set_option Elab.async false
set_option linter.all false
set_option maxRecDepth 100000
set_option maxHeartbeats 0
namespace RW
open PySem PySem.W PyProof.Rows L2
def topS (i : Nat) : Stmt := PySem.Challenge.pw_rainbowways_k04_whole_ways.main.body.getD i (.Pass ⟨0, 0, 0, 0⟩)
def clS (i j : Nat) : Stmt := (C8.clsBody (topS i)).getD j (.Pass ⟨0, 0, 0, 0⟩)
def lamE_18 : RW.E := (.and (.call 13 (.cons (.v 1) .nil)) (.call 17 (.cons (.v 0) (.cons (.v 1) .nil))))
def lamE_20 : RW.E := (.and (.call 19 (.cons (.v 0) (.cons (.v 2) .nil))) (.call 17 (.cons (.v 1) (.cons (.v 2) .nil))))
def pgD : List (Nat × Str × Stmt) := [(1, "_law_well", topS 35), (2, "_law_draw", topS 36), (3, "_law_same", topS 39), (8, "_law_right", topS 47), (9, "law", topS 48), (11, "is_one_of", topS 11), (12, "is_word", topS 12), (13, "is_name", topS 13), (14, "is_tuple_of", topS 14), (15, "is_pair", topS 15), (16, "wrong_in", topS 16), (17, "are_below", topS 17), (18, "wrong_in_places", topS 22), (19, "is_tie_of", topS 23), (20, "wrong_in_ties", topS 24), (21, "beside", topS 25), (22, "do_hang", topS 26), (23, "_law_of", topS 37), (24, "_law_shuffled", topS 38), (25, "_law_words", topS 40), (27, "_law_names", topS 41), (28, "_law_web", topS 42), (29, "_law_made", topS 43), (30, "_law_near", topS 44), (31, "_law_ways", topS 45), (33, "_law_pairs", topS 46), (36, "ways_between", topS 27), (37, "check_web", topS 30), (38, "check_place", topS 31), (39, "check_two", topS 32), (40, "all_ways", topS 33)]
def pgL : Nat → Lk := fun f => if f = 18 then .lam 16 fd_wrong_in_places_lam lamE_18 [] 152 else if f = 20 then .lam 16 fd_wrong_in_ties_lam lamE_20 [0] 153 else if f = 36 then .srt else .no
def pg : Pg := ⟨FN_k04, pgD, clS 29 0, 10, fun f => f == 40, [("wrong_in_places", none), ("wrong_in_ties", none), ("ways_between", none)], ["LEAST_PLACES", "LETTERS", "MOST_LETTERS", "MOST_PLACES", "MOST_TIES", "WORDS"], pgL⟩
theorem bd_10 : pg.Bd 10 := fun kV doc pm cdv ct an => bdn3 (by intro a b c; rfl) rfl
theorem bd_1 : pg.Bd 1 := fun kV doc pm cdv ct an => bdn2 (by intro a b; rfl) rfl
theorem bd_2 : pg.Bd 2 := fun kV doc pm cdv ct an => bdn2 (by intro a b; rfl) rfl
theorem bd_3 : pg.Bd 3 := fun kV doc pm cdv ct an => bdn2 (by intro a b; rfl) rfl
theorem bd_8 : pg.Bd 8 := fun kV doc pm cdv ct an => bdn1 (by intro a; rfl) rfl
theorem bd_9 : pg.Bd 9 := fun kV doc pm cdv ct an => bdn1 (by intro a; rfl) rfl
theorem bd_11 : pg.Bd 11 := fun kV doc pm cdv ct an => bdn2 (by intro a b; rfl) rfl
theorem bd_12 : pg.Bd 12 := fun kV doc pm cdv ct an => bdn1 (by intro a; rfl) rfl
theorem bd_13 : pg.Bd 13 := fun kV doc pm cdv ct an => bdn1 (by intro a; rfl) rfl
theorem bd_14 : pg.Bd 14 := fun kV doc pm cdv ct an => bdn2 (by intro a b; rfl) rfl
theorem bd_15 : pg.Bd 15 := fun kV doc pm cdv ct an => bdn1 (by intro a; rfl) rfl
theorem bd_16 : pg.Bd 16 := fun kV doc pm cdv ct an => bdn4 (by intro a b c d; rfl) rfl
theorem bd_17 : pg.Bd 17 := fun kV doc pm cdv ct an => bdn2 (by intro a b; rfl) rfl
theorem bd_18 : pg.Bd 18 := fun kV doc pm cdv ct an => bdn1 (by intro a; rfl) rfl
theorem bd_19 : pg.Bd 19 := fun kV doc pm cdv ct an => bdn2 (by intro a b; rfl) rfl
theorem bd_20 : pg.Bd 20 := fun kV doc pm cdv ct an => bdn2 (by intro a b; rfl) rfl
theorem bd_21 : pg.Bd 21 := fun kV doc pm cdv ct an => bdn2 (by intro a b; rfl) rfl
theorem bd_22 : pg.Bd 22 := fun kV doc pm cdv ct an => bdn2 (by intro a b; rfl) rfl
theorem bd_23 : pg.Bd 23 := fun kV doc pm cdv ct an => bdn2 (by intro a b; rfl) rfl
theorem bd_24 : pg.Bd 24 := fun kV doc pm cdv ct an => bdn2 (by intro a b; rfl) rfl
theorem bd_25 : pg.Bd 25 := fun kV doc pm cdv ct an => bdn0 (by rfl) rfl
theorem bd_27 : pg.Bd 27 := fun kV doc pm cdv ct an => bdn2 (by intro a b; rfl) rfl
theorem bd_28 : pg.Bd 28 := fun kV doc pm cdv ct an => bdn3 (by intro a b c; rfl) rfl
theorem bd_29 : pg.Bd 29 := fun kV doc pm cdv ct an => bdn1 (by intro a; rfl) rfl
theorem bd_30 : pg.Bd 30 := fun kV doc pm cdv ct an => bdn1 (by intro a; rfl) rfl
theorem bd_31 : pg.Bd 31 := fun kV doc pm cdv ct an => bdn3 (by intro a b c; rfl) rfl
theorem bd_33 : pg.Bd 33 := fun kV doc pm cdv ct an => bdn1 (by intro a; rfl) rfl
theorem bd_36 : pg.Bd 36 := fun kV doc pm cdv ct an => bdn3 (by intro a b c; rfl) rfl
theorem bd_37 : pg.Bd 37 := fun kV doc pm cdv ct an => bdn1 (by intro a; rfl) rfl
theorem bd_38 : pg.Bd 38 := fun kV doc pm cdv ct an => bdn2 (by intro a b; rfl) rfl
theorem bd_39 : pg.Bd 39 := fun kV doc pm cdv ct an => bdn3 (by intro a b c; rfl) rfl
theorem bd_40 : pg.Bd 40 := fun kV doc pm cdv ct an => bdn3 (by intro a b c; rfl) rfl
theorem kr_40 : ∀ (kV doc pm cdv ct : Value) (an : Option Addr), KRev (PySem.W.fnOf (pg.name 40) (pg.qual 40) (C8.fnArgs (pg.st 40)) (C8.fnBody (pg.st 40)) (C8.fnScope (pg.st 40)) .none kV doc pm an cdv ct) (pg.par 40) := fun kV doc pm cdv ct an us h => by
  match us, (show us.length = 3 from h) with
  | [a, b, c], _ => rfl
theorem pg_chk : pg.fids.all pg.okDef = true := by decide +kernel
theorem pg_lam_18 : pg.okLam 16 = true := by decide +kernel
theorem pg_lam_20 : pg.okLam 16 = true := by decide +kernel
theorem pg_bd : ∀ f ∈ [10, 1, 2, 3, 8, 9, 11, 12, 13, 14, 15, 16, 17, 18, 19, 20, 21, 22, 23, 24, 25, 27, 28, 29, 30, 31, 33, 36, 37, 38, 39, 40], pg.Bd f := (List.forall_mem_cons.2 ⟨bd_10, (List.forall_mem_cons.2 ⟨bd_1, (List.forall_mem_cons.2 ⟨bd_2, (List.forall_mem_cons.2 ⟨bd_3, (List.forall_mem_cons.2 ⟨bd_8, (List.forall_mem_cons.2 ⟨bd_9, (List.forall_mem_cons.2 ⟨bd_11, (List.forall_mem_cons.2 ⟨bd_12, (List.forall_mem_cons.2 ⟨bd_13, (List.forall_mem_cons.2 ⟨bd_14, (List.forall_mem_cons.2 ⟨bd_15, (List.forall_mem_cons.2 ⟨bd_16, (List.forall_mem_cons.2 ⟨bd_17, (List.forall_mem_cons.2 ⟨bd_18, (List.forall_mem_cons.2 ⟨bd_19, (List.forall_mem_cons.2 ⟨bd_20, (List.forall_mem_cons.2 ⟨bd_21, (List.forall_mem_cons.2 ⟨bd_22, (List.forall_mem_cons.2 ⟨bd_23, (List.forall_mem_cons.2 ⟨bd_24, (List.forall_mem_cons.2 ⟨bd_25, (List.forall_mem_cons.2 ⟨bd_27, (List.forall_mem_cons.2 ⟨bd_28, (List.forall_mem_cons.2 ⟨bd_29, (List.forall_mem_cons.2 ⟨bd_30, (List.forall_mem_cons.2 ⟨bd_31, (List.forall_mem_cons.2 ⟨bd_33, (List.forall_mem_cons.2 ⟨bd_36, (List.forall_mem_cons.2 ⟨bd_37, (List.forall_mem_cons.2 ⟨bd_38, (List.forall_mem_cons.2 ⟨bd_39, (List.forall_mem_cons.2 ⟨bd_40, (fun _ z => by cases z)⟩)⟩)⟩)⟩)⟩)⟩)⟩)⟩)⟩)⟩)⟩)⟩)⟩)⟩)⟩)⟩)⟩)⟩)⟩)⟩)⟩)⟩)⟩)⟩)⟩)⟩)⟩)⟩)⟩)⟩)⟩)⟩)
theorem pg_lamT (f : Nat) : pg.lk f = .no ∨ (pg.at_ f ∈ pg.tf ∧ f ≠ pg.ini) := by
  by_cases h18 : f = 18
  · subst h18
    exact .inr ⟨by decide +kernel, by decide⟩
  by_cases h20 : f = 20
  · subst h20
    exact .inr ⟨by decide +kernel, by decide⟩
  by_cases h36 : f = 36
  · subst h36
    exact .inr ⟨by decide +kernel, by decide⟩
  exact .inl (by show (pgL f) = _; simp [pgL, h18, h20, h36])
theorem pg_lam : ∀ f g fdl le cs l, pg.lk f = .lam g fdl le cs l → pg.FN l = some fdl ∧ fdl.nat = none ∧ fdl.body = .cons (.ret le) .nil ∧ fdl.keep = false ∧ fdl.np = cs.length + 2 ∧ (pg.nm g).isSome = true ∧ pg.okLam g = true := by
  intro f g fdl le cs l e
  by_cases h18 : f = 18
  · subst h18
    have e : pgL 18 = .lam g fdl le cs l := e
    cases e
    exact ⟨rfl, rfl, rfl, rfl, rfl, by decide +kernel, pg_lam_18⟩
  by_cases h20 : f = 20
  · subst h20
    have e : pgL 20 = .lam g fdl le cs l := e
    cases e
    exact ⟨rfl, rfl, rfl, rfl, rfl, by decide +kernel, pg_lam_20⟩
  by_cases h36 : f = 36
  · subst h36
    have e : pgL 36 = .lam g fdl le cs l := e
    cases e
  exfalso
  have e : pgL f = .lam g fdl le cs l := e
  simp [pgL, h18, h20, h36] at e
theorem pg_kr : ∀ f, pg.kr f = true → ∀ (kV doc pm cdv ct : Value) (an : Option Addr), KRev (PySem.W.fnOf (pg.name f) (pg.qual f) (C8.fnArgs (pg.st f)) (C8.fnBody (pg.st f)) (C8.fnScope (pg.st f)) .none kV doc pm an cdv ct) (pg.par f) := by
  intro f h
  have h : (f == 40) = true := h
  simp only [Bool.or_eq_true, beq_iff_eq] at h
  rcases h with rfl
  · exact kr_40
theorem pg_ok : pg.Ok := ⟨by decide +kernel, by decide +kernel, pg_bd, pg_kr, pg_chk, pg_lam, pg_lamT⟩
end RW
namespace HeadT
open PySem PySem.Spec PyProof.Rows L2
abbrev R : PySem.W.OpenRow := PySem.W.OpenLaw.row PySem.Challenge.rw_rainbowways_k04_whole_ways
abbrev hk : PySem.W.Hook := He.hookX 5 RW.pg.fa RW.pg.fn [] RW.pg.tf RW.pg.ex
def ob (s : PySem.W.SharedT) : He.AlX := He.obsX 5 RW.pg.fa RW.pg.fn [] RW.pg.tf RW.pg.ex (HandSHeadRun.getT s)
theorem ob_eq (s : PySem.W.SharedT) : ob s = hk.obs s.abs := He.obsX_eq (HandSHeadRun.getT_eq s)
def names : List PySem.Str := (["WayError", "UnknownPlace", "NotAWeb", "InvalidPlaces", "InvalidTies", "NotWhole", "LETTERS", "MOST_LETTERS", "WORDS", "is_one_of", "is_word", "is_name", "is_tuple_of", "is_pair", "wrong_in", "are_below", "LEAST_PLACES", "MOST_PLACES", "MOST_TIES", "wrong_in_places", "is_tie_of", "wrong_in_ties", "beside", "do_hang", "ways_between", "Web", "check_web", "check_place", "check_two", "all_ways"] : List PySem.Str) ++ (["_law_well", "_law_draw", "_law_of", "_law_shuffled", "_law_same", "_law_words", "_law_names", "_law_web", "_law_made", "_law_near", "_law_ways", "_law_pairs", "_law_right"] : List PySem.Str)
theorem run (w : World) : HandSHeadRun.RunEq R (PySem.W.view R.prog [48]) hk ob 30000 names w := by
  intro os
  kernel_rfl
end HeadT
open PySem PySem.W PySem.Calls PyProof.Rows
theorem PySem.Challenge.cw_rainbowways_k04_whole_ways_holds : PySem.Challenge.rw_rainbowways_k04_whole_ways.Holds := by
  w_on; o_law
  refine HandSHeadRun.head_any (r := OpenLaw.row PySem.Challenge.rw_rainbowways_k04_whole_ways) (q := view (OpenLaw.row PySem.Challenge.rw_rainbowways_k04_whole_ways).prog [48]) (H := HeadT.hk) (ob := HeadT.ob) (M := 30000) (loose := HeadT.names) (d := HandSHeadRun.topDef (OpenLaw.row PySem.Challenge.rw_rainbowways_k04_whole_ways).prog 48) (kwd := []) HeadT.ob_eq
    (by kernel_rfl) (fun s => by kernel_rfl) HeadT.run (by kernel_rfl) (by kernel_rfl) (by kernel_rfl) (by rfl) (by first | assumption | decide +kernel) (by decide +kernel) ⟨rfl, rfl, rfl, rfl, rfl, by decide +kernel⟩ ?hw ?hc
  case hw => w_witness2
  case hc => exact RW.pg_walk (p := RW.pg) (f := 9) (x := 0) (xs := "script") (nx := 63) (m := 10) RW.pg_ok rfl (by decide) rfl (by decide +kernel) (by decide +kernel) (by constructor <;> decide +kernel) fun ns h => RW.law_k04 0 ns (by omega)
