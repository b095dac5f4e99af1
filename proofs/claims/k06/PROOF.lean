import PyProof.Rows.All
import Wide.All
import OpenK.AllK
import Wide.FinOn
import HandS.ForMost
import HandS.Wide
import HandS.TupAny
import HandS.TupMul
import HandS.Conv
import HandS.IsInst
import HandS.Style
import HandS.Deep
import HandS.Zip
import HandS.Flow
import KE.DatumIndex
import PyProof.ReprRoads
import KE.DataEq
import KE.LtData
import KE.SortData
import KE.DataIsa
import KE.DataAny
import KE.DataMinMax
import KE.DataFind
import HandS.TupLe
import KE.KIndexOf
import KE.KTupSum
import KE.GoesNew
import KE.GoesMore
import KE.GoesEnum
import KE.GoesEnumKw
import HandS.TryOnly
import HandS.More
import KE.KStateDown
import HandS.Ends
import HandS.Words
import HandS.WordsExc
import HandS.Defaults
import HandS.Head0
import HandS.Head1
import HandS.Head2
import HandS.HeadEnd
import HandS.HeadHook1
import HandS.HeadHook2
import HandS.HeadHook4
import PySem.Challenge.RW_keybench_k06_systems_recognized
set_option Elab.async false
set_option linter.all false
set_option maxRecDepth 100000
set_option maxHeartbeats 0
/-! MP: a small deep embedding. Syntax and meaning. -/
namespace MP
open PySem

/-! ### syntax -/
inductive Bn where
  | add | sub | mul | fdiv | mod | pow
  deriving DecidableEq
inductive Cm where
  | eq | ne | lt | le | gt | ge | isin | nin | is | isnt
  deriving DecidableEq
inductive Tn where
  | int | bool | str | tuple | list | dict
  deriving DecidableEq
inductive Op where
  | bin (o : Bn) | neg | not | cmp (o : Cm) | isN | nisN | isB (b : Bool)
  | len | isa (ts : List Tn) | int | tuple | list | sum | sorted | all | any | repr | min1 | max1 | min2 | max2
  | lrng | trng | idx | index
  | tup | lst
  deriving DecidableEq
/-- a written constant -/
inductive Cs where
  | non | bl (b : Bool) | int (i : Int) | str (s : String) | emp
/-- a method that changes the list in a slot -/
inductive Mt where
  | append | extend | insert | pop | clear
  deriving DecidableEq

mutual
inductive Ex where
  | var (i : Nat)
  | cst (c : Cs)
  | glb (x : String) (d : PyData)
  | op (o : Op) (es : Exs)
  | and (es : Exs)
  | or (es : Exs)
  | chain (o1 o2 : Cm) (a b c : Ex)
  | ite (c a b : Ex)
  | slice (a : Ex) (lo hi : Exs) (st : Option Int)
  | call (f : Nat) (es : Exs)
  | meth (m : Mt) (i : Nat) (es : Exs)
  | comp (own : List Nat) (elt : Ex) (cl : Cl)
inductive Exs where
  | nil
  | cons (e : Ex) (r : Exs)
inductive It where
  | val (e : Ex)
  | rng (es : Exs)
  | enm (e : Ex)
  | zip (strict : Bool) (es : Exs)
inductive Cl where
  | last (t : Tg) (i : It) (ifs : Exs)
  | more (t : Tg) (i : It) (ifs : Exs) (r : Cl)
inductive Tg where
  | var (i : Nat)
  | tup (ts : Tgs)
inductive Tgs where
  | nil
  | cons (t : Tg) (r : Tgs)
end
/-- a target of a parallel assignment -/
inductive Pt where
  | tg (t : Tg)
  | sub (i : Nat) (k : Ex)
mutual
inductive St where
  | exp (e : Ex)
  | asg (t : Tg) (e : Ex)
  | par (ts : List Pt) (es : Exs)
  | set (i : Nat) (k e : Ex)
  | aug (i : Nat) (o : Bn) (e : Ex)
  | aset (i : Nat) (k : Ex) (o : Bn) (e : Ex)
  | ret (e : Ex)
  | ret0
  | ite (c : Ex) (a b : Sts)
  | for (t : Tg) (i : It) (b : Sts)
  | forO (t : Tg) (enm : Bool) (i : Nat) (b : Sts)
  | while (c : Ex) (b : Sts)
  | pass | brk | cont
inductive Sts where
  | nil
  | cons (s : St) (r : Sts)
end

/-! ### meaning -/
abbrev Env := List (Option (Bool × PyData))
inductive Res where
  | sh (d : PyData) | own (d : PyData) | bor (i : Nat)
inductive Fl where
  | nx | br | ct | rt (r : Bool × PyData)

def valOf (ρ : Env) : Res → Option PyData
  | .sh d => some d
  | .own d => some d
  | .bor i => match ρ[i]? with
    | some (some (true, d)) => some d
    | _ => none
def valsOf (ρ : Env) : List Res → Option (List PyData)
  | [] => some []
  | r :: rs => match valOf ρ r, valsOf ρ rs with
    | some d, some ds => some (d :: ds)
    | _, _ => none
/-- a borrowed slot becomes shared -/
def frzR (ρ : Env) : Res → Env
  | .bor i => match ρ[i]? with
    | some (some (true, d)) => ρ.set i (some (false, d))
    | _ => ρ
  | _ => ρ
def frzRs (ρ : Env) : List Res → Env
  | [] => ρ
  | r :: rs => frzRs (frzR ρ r) rs

def szOk (n : Nat) : Bool := decide (n ≤ sizeLine)
/-- small enough to be compared, shown .. -/
def okD (d : PyData) : Bool := d.plain && decide (d.depth ≤ 100)
def okDs (ds : List PyData) : Bool := PyData.plainAll ds && decide (PyData.depthAll ds ≤ 100)

def mulOk (a b : Int) : Bool := decide (a.natAbs < 2 ^ 64) || decide (b.natAbs < 2 ^ 64) || decide (a.natAbs.log2 + b.natAbs.log2 < 1000000)
def divOk (b : Int) : Bool := decide (0 < b) && decide (b.natAbs.log2 < 9000)
def powOk (a b : Int) : Bool := decide (0 ≤ b) && decide (b ≤ 1000000) && decide (a.natAbs < 2 ^ 64)
def b2i (b : Bool) : Int := if b = true then 1 else 0
def bAdd (a b : PyData) : Option (Bool × PyData) := match a, b with
  | .int i, .int j => some (false, .int (i + j))
  | .bool i, .int j => some (false, .int (b2i i + j))
  | .tuple xs, .tuple ys => if szOk (xs.length + ys.length) then some (false, .tuple (xs ++ ys)) else none
  | .list xs, .list ys => if szOk (xs.length + ys.length) then some (true, .list (xs ++ ys)) else none
  | _, _ => none
def bMul (a b : PyData) : Option (Bool × PyData) := match a, b with
  | .int i, .int j => if mulOk i j then some (false, .int (i * j)) else none
  | .bool i, .int j => some (false, .int (b2i i * j))
  | .tuple xs, .int n => if szOk (xs.length * n.toNat) && decide (n < 2 ^ 62) && decide (-(2 ^ 62) ≤ n) then some (false, .tuple (List.replicate n.toNat xs).flatten) else none
  | .list xs, .int n => if szOk (xs.length * n.toNat) && decide (n < 2 ^ 62) && decide (-(2 ^ 62) ≤ n) then some (true, .list (List.replicate n.toNat xs).flatten) else none
  | _, _ => none
def bI (ok : Int → Int → Bool) (f : Int → Int → Int) (a b : PyData) : Option (Bool × PyData) := match a, b with
  | .int i, .int j => if ok i j then some (false, .int (f i j)) else none
  | _, _ => none
def bSub (a b : PyData) : Option (Bool × PyData) := match a, b with
  | .int i, .int j => some (false, .int (i - j))
  | .bool i, .int j => some (false, .int (b2i i - j))
  | _, _ => none
def bin (o : Bn) (a b : PyData) : Option (Bool × PyData) := match o with
  | .add => bAdd a b
  | .sub => bSub a b
  | .mul => bMul a b
  | .fdiv => bI (fun _ j => divOk j) (fun i j => i / j) a b
  | .mod => bI (fun _ j => divOk j) (fun i j => i % j) a b
  | .pow => bI powOk (fun i j => i ^ j.toNat) a b
def eqD (a b : PyData) : Option Bool := match a, b with
  | .int i, .int j => some (decide (i = j))
  | .str x, .str y => some (decide (x = y))
  | a, b => if okD a && okD b then some (PyData.eqv a b) else none
def isIn (x c : PyData) : Option Bool := match c with
  | .list xs => if okD x && okDs xs then some (xs.any fun y => PyData.eqv y x) else none
  | .tuple xs => if okD x && okDs xs then some (xs.any fun y => PyData.eqv y x) else none
  | _ => none
def cI (f : Int → Int → Bool) (a b : PyData) : Option Bool := match a, b with
  | .int i, .int j => some (f i j)
  | _, _ => none
def cLe (a b : PyData) : Option Bool := match a, b with
  | .int i, .int j => some (decide (i ≤ j))
  | .int i, .bool j => some (decide (i ≤ b2i j))
  | _, _ => none
def cLt (a b : PyData) : Option Bool := match a, b with
  | .int i, .int j => some (decide (i < j))
  | .bool i, .int j => some (decide (b2i i < j))
  | .tuple xs, .tuple ys => if PySem.W.alikeAll xs ys && (okDs xs && okDs ys) then some (PySem.W.dataLt (.tuple xs) (.tuple ys)) else none
  | _, _ => none
/-- one truth value or another -/
def isBB (a b : PyData) : Option Bool := match a, b with
  | .bool x, .bool y => some (decide (x = y))
  | _, _ => none
def cmp (o : Cm) (a b : PyData) : Option Bool := match o with
  | .eq => eqD a b
  | .ne => (eqD a b).map (!·)
  | .lt => cLt a b
  | .le => cLe a b
  | .gt => cI (fun i j => decide (j < i)) a b
  | .ge => cI (fun i j => decide (j ≤ i)) a b
  | .isin => isIn a b
  | .nin => (isIn a b).map (!·)
  | .is => isBB a b
  | .isnt => (isBB a b).map (!·)
def isT (d : PyData) : Tn → Bool
  | .int => d.isInt
  | .bool => d.isBool
  | .str => d.isStr
  | .tuple => d.isTuple
  | .list => d.isList
  | .dict => d.isDict
def sumI : List PyData → Option Int
  | [] => some 0
  | .int i :: r => (sumI r).map (i + ·)
  | _ :: _ => none
/-- a slice -/
def sliced {α : Type} (xs : List α) (lo hi : Option Int) : List α := (xs.drop (HT.sIx xs.length 0 lo)).take (HT.sIx xs.length xs.length hi - HT.sIx xs.length 0 lo)
/-- where an insert goes -/
def clampI (n : Nat) (i : Int) : Nat := HT.sIx n 0 (some i)
/-- every second one from the first -/
def evens {α : Type} : List α → List α
  | [] => []
  | [x] => [x]
  | x :: _ :: r => x :: evens r
def alikeD (ds : List PyData) : Bool := ds.all fun x => ds.all fun y => PySem.W.alike x y
def isNone : PyData → Bool
  | .none => true
  | _ => false
/-- sorted: ints, or tuples alike -/
def sortOk (ds : List PyData) : Bool := alikeD ds && (ds.all fun d => match d with | .tuple (_ :: _) => true | _ => false) || (alikeD ds && ds.all fun d => match d with | .int _ => true | _ => false)
def sortD (ds : List PyData) : List PyData := ds.mergeSort fun a b => !PySem.W.dataLt b a
def rngL (a b : Int) : List PyData := (List.range (b - a).toNat).map fun k => .int (a + (k : Nat))
def rngOk (a b : Int) : Bool := decide (-(2 ^ 62) ≤ a) && decide (a < 2 ^ 62) && decide (-(2 ^ 62) ≤ b) && decide (b < 2 ^ 62) && szOk (b - a).toNat
def rng (ds : List PyData) : Option (List PyData) := match ds with
  | [.int b] => if rngOk 0 b then some (rngL 0 b) else none
  | [.int a, .int b] => if rngOk a b then some (rngL a b) else none
  | _ => none
def asSeq : PyData → Option (List PyData)
  | .list xs => some xs
  | .tuple xs => some xs
  | _ => none
def sliceD (lo hi : Option Int) (st : Option Int) (d : PyData) : Option (Bool × PyData) :=
  match st with
  | none => (match d with
    | .list xs => some (true, .list (sliced xs lo hi))
    | .tuple xs => some (false, .tuple (sliced xs lo hi))
    | _ => none)
  | some k => if k = -1 then (match lo, hi, d with
      | none, none, .list xs => some (true, .list xs.reverse)
      | none, none, .tuple xs => some (false, .tuple xs.reverse)
      | _, _, _ => none)
    else if k = 2 then (match hi, d with
      | none, .list xs => some (true, .list (evens (sliced xs lo none)))
      | none, .tuple xs => some (false, .tuple (evens (sliced xs lo none)))
      | _, _ => none)
    else none
def bests (lt : PyData → PyData → Bool) : List PyData → Option PyData
  | [] => none
  | x :: xs => some (xs.foldl (fun a y => if lt y a then y else a) x)
def intsOnly (ds : List PyData) : Bool := ds.all fun d => match d with | .int _ => true | _ => false
def cmpOk (ds : List PyData) : Bool := alikeD ds && okDs ds && ds.all fun d => !isNone d
def isBl : PyData → Bool
  | .int _ => true
  | .bool _ => true
  | _ => false
def boolish (ds : List PyData) : Bool := ds.all isBl
def intsOf : List PyData → Option (List Int)
  | [] => some []
  | .int i :: r => (intsOf r).map (i :: ·)
  | _ :: _ => none
def shB (b : Bool) : Option (Bool × PyData) := some (false, .bool b)
def opS (o : Op) (ds : List PyData) : Option (Bool × PyData) := match o, ds with
  | .bin o, [a, b] => bin o a b
  | .neg, [.int i] => some (false, .int (-i))
  | .not, [.bool b] => shB (!b)
  | .cmp o, [a, b] => (cmp o a b).map fun c => (false, .bool c)
  | .isN, [d] => shB (isNone d)
  | .nisN, [d] => shB (!isNone d)
  | .isB b, [d] => shB (match d with | .bool c => b == c | _ => false)
  | .len, [.list xs] => some (false, .int xs.length)
  | .len, [.tuple xs] => some (false, .int xs.length)
  | .isa ts, [d] => shB (ts.any (isT d))
  | .int, [.int i] => some (false, .int i)
  | .int, [.bool b] => some (false, .int (if b then 1 else 0))
  | .tuple, [d] => (asSeq d).map fun xs => (false, .tuple xs)
  | .list, [d] => (asSeq d).map fun xs => (true, .list xs)
  | .sum, [.list xs] => (sumI xs).map fun i => (false, .int i)
  | .sum, [.tuple xs] => (sumI xs).map fun i => (false, .int i)
  | .sorted, [d] => (asSeq d).bind fun xs => if sortOk xs && okDs xs then some (true, .list (sortD xs)) else none
  | .all, [.list xs] => if boolish xs then shB (xs.all PyData.truthy) else none
  | .any, [.list xs] => if boolish xs then shB (xs.any PyData.truthy) else none
  | .repr, [d] => if d.showable && (decide (d.depth ≤ 100) && szOk d.shown.length) then some (false, .str d.shown) else none
  | .min1, [d] => (asSeq d).bind fun xs => if cmpOk xs then (bests PySem.W.dataLt xs).map fun x => (false, x) else none
  | .max1, [d] => (asSeq d).bind fun xs => if cmpOk xs then (bests (fun y a => PySem.W.dataLt a y) xs).map fun x => (false, x) else none
  | .min2, [.int i, .int j] => some (false, .int (if j < i then j else i))
  | .max2, [.int i, .int j] => some (false, .int (if i < j then j else i))
  | .lrng, ds => (rng ds).map fun xs => (true, .list xs)
  | .trng, ds => (rng ds).map fun xs => (false, .tuple xs)
  | .idx, [d, .int i] => (asSeq d).bind fun xs => (L2.ixN xs.length i).bind fun k => (xs[k]?).map fun x => (false, x)
  | .index, [.list xs, .int i] => (intsOf xs).bind fun ns => if i ∈ ns then some (false, .int ((ns.idxOf i : Nat) : Int)) else none
  | .tup, ds => if szOk ds.length then some (false, .tuple ds) else none
  | .lst, ds => if szOk ds.length then some (true, .list ds) else none
  | _, _ => none
/-- does the result hold the arguments themselves -/
def Op.stores : Op → Bool
  | .tup | .lst => true
  | _ => false
def mkR : Bool × PyData → Res
  | (false, d) => .sh d
  | (true, d) => .own d

def csD : Cs → PyData
  | .non => .none
  | .bl b => .bool b
  | .int i => .int i
  | .str s => .str (Str.ofString s)
  | .emp => .dict []

/-- a method: the list, the arguments; the result, the list behind it -/
def mtS (m : Mt) (d : PyData) (ds : List PyData) : Option (PyData × PyData) := match m, d, ds with
  | .append, .list xs, [x] => if szOk (xs.length + 1) then some (.none, .list (xs ++ [x])) else none
  | .extend, .list xs, [.list ys] => if szOk (xs.length + ys.length) then some (.none, .list (xs ++ ys)) else none
  | .insert, .list xs, [.int i, x] => if szOk (xs.length + 1) && decide (0 ≤ i) && decide (i < 2 ^ 62) then some (.none, .list (xs.take i.toNat ++ x :: xs.drop i.toNat)) else none
  | .pop, .list xs, [] => if h : xs ≠ [] then some (xs.getLast h, .list xs.dropLast) else none
  | .pop, .list xs, [.int i] => (L2.ixN xs.length i).bind fun k => (xs[k]?).map fun x => (x, .list (xs.eraseIdx k))
  | .clear, .list _, [] => some (.none, .list [])
  | _, _, _ => none

mutual
/-- a target takes a datum -/
def asgT (mp : List Nat) : Tg → PyData → Env → Option Env
  | .var i, d, ρ => if mp.contains i || !decide (i < ρ.length) then none else some (ρ.set i (some (false, d)))
  | .tup ts, d, ρ => match d with
    | .tuple xs => asgTs mp ts xs ρ
    | .list xs => asgTs mp ts xs ρ
    | _ => none
def asgTs (mp : List Nat) : Tgs → List PyData → Env → Option Env
  | .nil, [], ρ => some ρ
  | .cons t r, x :: xs, ρ => match asgT mp t x ρ with
    | some ρ' => asgTs mp r xs ρ'
    | none => none
  | _, _, _ => none
end
/-- a name takes a result -/
def asgV (mp : List Nat) (i : Nat) (r : Res) (ρ : Env) : Option Env :=
  if mp.contains i || !decide (i < ρ.length) then none else match r with
  | .sh d => some (ρ.set i (some (false, d)))
  | .own d => some (ρ.set i (some (true, d)))
  | .bor j => if mp.contains j then none else match valOf ρ (.bor j) with
    | some d => some ((frzR ρ (.bor j)).set i (some (false, d)))
    | none => none
def asgR (mp : List Nat) (t : Tg) (r : Res) (ρ : Env) : Option Env := match t with
  | .var i => asgV mp i r ρ
  | .tup ts => match valOf ρ r with
    | some d => asgT mp (.tup ts) d (frzR ρ r)
    | none => none

/-- a result that holds no list -/
def isAt : PyData → Bool
  | .none => true
  | .bool _ => true
  | .int _ => true
  | .str _ => true
  | _ => false
abbrev Ph := Nat → List (Bool × PyData) → Option ((Bool × PyData) × List PyData)

def wipe (ρ : Env) : List Nat → Env
  | [] => ρ
  | v :: vs => (wipe ρ vs).set v none
/-- behind a comprehension: its own slots as they were -/
def back (ρ₀ ρ : Env) : List Nat → Env
  | [] => ρ
  | v :: vs => (back ρ₀ ρ vs).set v ((ρ₀[v]?).getD none)

def loopC (f : PyData → Env → Option (List PyData × Env)) : List PyData → Env → Option (List PyData × Env)
  | [], ρ => some ([], ρ)
  | x :: xs, ρ => match f x ρ with
    | some (r, ρ1) => (match loopC f xs ρ1 with
      | some (rs, ρ2) => some (r ++ rs, ρ2)
      | none => none)
    | none => none
/-- the truth of a meaning -/
def bT (D : Env → Option (Res × Env)) : Env → Option (Bool × Env) := fun ρ => match D ρ with
  | some (r, ρ1) => (match valOf ρ1 r with
    | some (.bool b) => some (b, ρ1)
    | _ => none)
  | none => none
/-- a loop's turn -/
def tgB (mp : List Nat) (t : Tg) (k : Env → Option (Fl × Env)) (x : PyData) (ρ : Env) : Option (Fl × Env) := match asgT mp t x ρ with
  | some ρ1 => k ρ1
  | none => none
/-- a clause's turn -/
def cBody (mp : List Nat) (t : Tg) (Db : Env → Option (Bool × Env)) (k : Env → Option (List PyData × Env)) (x : PyData) (ρ : Env) : Option (List PyData × Env) :=
  match asgT mp t x ρ with
  | some ρ1 => (match Db ρ1 with
    | some (true, ρ2) => k ρ2
    | some (false, ρ2) => some ([], ρ2)
    | none => none)
  | none => none
def loopF (f : PyData → Env → Option (Fl × Env)) : List PyData → Env → Option (Fl × Env)
  | [], ρ => some (.nx, ρ)
  | x :: xs, ρ => match f x ρ with
    | some (.nx, ρ1) => loopF f xs ρ1
    | some (.ct, ρ1) => loopF f xs ρ1
    | some (.br, ρ1) => some (.nx, ρ1)
    | some (.rt r, ρ1) => some (.rt r, ρ1)
    | none => none
open Classical in
/-- a loop over a list that stays as it is -/
noncomputable def loopO (c : Env → Prop) (f : PyData → Env → Option (Fl × Env)) : List PyData → Env → Option (Fl × Env)
  | [], ρ => if c ρ then some (.nx, ρ) else none
  | x :: xs, ρ => if c ρ then (match f x ρ with
    | some (.nx, ρ1) => loopO c f xs ρ1
    | some (.ct, ρ1) => loopO c f xs ρ1
    | some (.br, ρ1) => some (.nx, ρ1)
    | some (.rt r, ρ1) => some (.rt r, ρ1)
    | none => none) else none
def whileN (c : Env → Option (Bool × Env)) (b : Env → Option (Fl × Env)) : Nat → Env → Option (Fl × Env)
  | 0, _ => none
  | n + 1, ρ => match c ρ with
    | some (true, ρ1) => (match b ρ1 with
      | some (.nx, ρ2) => whileN c b n ρ2
      | some (.ct, ρ2) => whileN c b n ρ2
      | some (.br, ρ2) => some (.nx, ρ2)
      | some (.rt r, ρ2) => some (.rt r, ρ2)
      | none => none)
    | some (false, ρ1) => some (.nx, ρ1)
    | none => none
open Classical in
noncomputable def whileD (c : Env → Option (Bool × Env)) (b : Env → Option (Fl × Env)) (ρ : Env) : Option (Fl × Env) :=
  if h : ∃ n r, whileN c b n ρ = some r then some (Classical.choose (Classical.choose_spec h)) else none

/-- rows side by side -/
def zipL (strict : Bool) : List (List PyData) → Option (List (List PyData))
  | [xs, ys] => if strict && decide (xs.length ≠ ys.length) then none else some ((xs.zip ys).map fun p => [p.1, p.2])
  | [xs, ys, zs] => if strict && (decide (xs.length ≠ ys.length) || decide (ys.length ≠ zs.length)) then none else some ((xs.zip (ys.zip zs)).map fun p => [p.1, p.2.1, p.2.2])
  | _ => none
def seqs : List PyData → Option (List (List PyData))
  | [] => some []
  | d :: ds => match asSeq d, seqs ds with
    | some x, some xs => some (x :: xs)
    | _, _ => none
def enumL (xs : List PyData) : List PyData := xs.zipIdx.map fun p => .tuple [.int (p.2 : Nat), p.1]

/-- places of borrowed slots -/
def bors : List Res → List Nat
  | [] => []
  | .bor i :: r => i :: bors r
  | _ :: r => bors r
def argVals (ρ : Env) : List Bool → List Res → Option (List (Bool × PyData))
  | [], [] => some []
  | m :: ms, r :: rs => match valOf ρ r, argVals ρ ms rs with
    | some d, some ds => some ((m, d) :: ds)
    | _, _ => none
  | _, _ => none
def argOk : List Bool → List Res → Bool
  | [], [] => true
  | true :: ms, .bor _ :: rs => argOk ms rs
  | false :: ms, _ :: rs => argOk ms rs
  | _, _ => false
/-- the arguments that are fixed -/
def fz {α : Type} : List Bool → List α → List α
  | false :: ms, r :: rs => r :: fz ms rs
  | true :: ms, _ :: rs => fz ms rs
  | _, _ => []
def mutPl : List Bool → List Res → List Nat
  | true :: ms, .bor i :: rs => i :: mutPl ms rs
  | _ :: ms, _ :: rs => mutPl ms rs
  | _, _ => []
def putAll : List Nat → List PyData → Env → Option Env
  | [], [], ρ => some ρ
  | i :: is, d :: ds, ρ => putAll is ds (ρ.set i (some (true, d)))
  | _, _, _ => none

/-- a part of a slice -/
def partI : Option (List PyData) → Option (Option Int)
  | some [] => some none
  | some [.int i] => some (some i)
  | _ => none

/-- a borrowed slot that was fixed meanwhile -/
def fxB (i : Nat) (o o' : Option (Option (Bool × PyData))) : Res := match o, o' with
  | some (some (true, _)), some (some (false, d)) => .sh d
  | _, _ => .bor i
def fixB (ρ ρ' : Env) : Res → Res
  | .bor i => fxB i ρ[i]? ρ'[i]?
  | r => r
section
variable (Φ : Ph) (Mu : Nat → List Bool) (mp : List Nat)
mutual
def den : Ex → Env → Option (Res × Env)
  | .var i, ρ => match ρ[i]? with
    | some (some (true, _)) => some (.bor i, ρ)
    | some (some (false, d)) => some (.sh d, ρ)
    | _ => none
  | .cst c, ρ => some (.sh (csD c), ρ)
  | .glb _ d, ρ => some (.sh d, ρ)
  | .op o es, ρ => match dens es ρ with
    | some (rs, ρ1) => (match valsOf ρ1 rs with
      | some ds => (match opS o ds with
        | some r => some (mkR r, if o.stores then frzRs ρ1 rs else ρ1)
        | none => none)
      | none => none)
    | none => none
  | .and es, ρ => match denB true es ρ with
    | some (b, ρ1) => some (.sh (.bool b), ρ1)
    | none => none
  | .or es, ρ => match denB false es ρ with
    | some (b, ρ1) => some (.sh (.bool b), ρ1)
    | none => none
  | .chain o1 o2 a b c, ρ => match den a ρ with
    | some (ra, ρ1) => (match den b ρ1 with
      | some (rb, ρ2) => (match valOf ρ2 ra, valOf ρ2 rb with
        | some x, some y => (match cmp o1 x y with
          | some true => (match den c ρ2 with
            | some (rc, ρ3) => (match valOf ρ3 rc, valOf ρ3 rb with
              | some z, some y' => (match cmp o2 y' z with
                | some k => some (.sh (.bool k), ρ3)
                | none => none)
              | _, _ => none)
            | none => none)
          | some false => some (.sh (.bool false), ρ2)
          | none => none)
        | _, _ => none)
      | none => none)
    | none => none
  | .ite c a b, ρ => match den c ρ with
    | some (r, ρ1) => (match valOf ρ1 r with
      | some (.bool true) => den a ρ1
      | some (.bool false) => den b ρ1
      | _ => none)
    | none => none
  | .slice a lo hi st, ρ => match den a ρ with
    | some (ra, ρ1) => (match dens lo ρ1 with
      | some (rl, ρ2) => (match partI (valsOf ρ2 rl) with
        | some pl => (match dens hi ρ2 with
          | some (rh, ρ3) => (match partI (valsOf ρ3 rh), valOf ρ3 ra with
            | some ph, some d => (match sliceD pl ph st d with
              | some r => some (mkR r, ρ3)
              | none => none)
            | _, _ => none)
          | none => none)
        | none => none)
      | none => none)
    | none => none
  | .call f es, ρ => match dens es ρ with
    | some (rs, ρ1) => if argOk (Mu f) rs && (decide (mutPl (Mu f) rs).Nodup && (mutPl (Mu f) rs).all fun i => !(bors (fz (Mu f) rs)).contains i) then
        (match argVals ρ1 (Mu f) rs with
        | some vs => (match Φ f vs with
          | some (r, fin) => if (Mu f).all (!·) && (!r.1 && isAt r.2) then some (mkR r, ρ1) else (match putAll (mutPl (Mu f) rs) fin (frzRs ρ1 (fz (Mu f) rs)) with
            | some ρ2 => some (mkR r, ρ2)
            | none => none)
          | none => none)
        | none => none)
      else none
    | none => none
  | .meth m i es, ρ => match ρ[i]? with
    | some (some (true, _)) => (match dens es ρ with
      | some (rs, ρ1) => (match valsOf ρ1 rs, (if (bors rs).contains i then none else valOf ρ1 (.bor i)) with
        | some ds, some d => (match mtS m d ds with
          | some (r, d') => some (.sh r, (frzRs ρ1 rs).set i (some (true, d')))
          | none => none)
        | _, _ => none)
      | none => none)
    | _ => none
  | .comp own elt cl, ρ => match denF cl ρ with
    | some (xs, ρ1) => (match denL (fun ρ2 => match den elt ρ2 with
          | some (r, ρ3) => (match valOf ρ3 r with
            | some d => some ([d], frzR ρ3 r)
            | none => none)
          | none => none) cl xs (wipe ρ1 own) with
      | some (ds, ρ2) => if szOk ds.length then some (.own (.list ds), back ρ1 ρ2 own) else none
      | none => none)
    | none => none
def dens : Exs → Env → Option (List Res × Env)
  | .nil, ρ => some ([], ρ)
  | .cons e r, ρ => match den e ρ with
    | some (x, ρ1) => (match dens r ρ1 with
      | some (xs, ρ2) => some (fixB ρ1 ρ2 x :: xs, ρ2)
      | none => none)
    | none => none
/-- and (w = true), or: of truth values -/
def denB (w : Bool) : Exs → Env → Option (Bool × Env)
  | .nil, ρ => some (w, ρ)
  | .cons e r, ρ => match den e ρ with
    | some (x, ρ1) => (match valOf ρ1 x with
      | some (.bool b) => if b = w then denB w r ρ1 else some (b, ρ1)
      | _ => none)
    | none => none
/-- the items that are walked -/
def denI : It → Env → Option (List PyData × Env)
  | .val e, ρ => match den e ρ with
    | some (r, ρ1) => (match valOf ρ1 r with
      | some d => (match asSeq d with
        | some xs => some (xs, frzR ρ1 r)
        | none => none)
      | none => none)
    | none => none
  | .rng es, ρ => match dens es ρ with
    | some (rs, ρ1) => (match valsOf ρ1 rs with
      | some ds => (match rng ds with
        | some xs => some (xs, ρ1)
        | none => none)
      | none => none)
    | none => none
  | .enm e, ρ => match den e ρ with
    | some (r, ρ1) => (match valOf ρ1 r with
      | some d => (match asSeq d with
        | some xs => some (enumL xs, frzR ρ1 r)
        | none => none)
      | none => none)
    | none => none
  | .zip s es, ρ => match dens es ρ with
    | some (rs, ρ1) => (match valsOf ρ1 rs with
      | some ds => (match seqs ds with
        | some xs => (match zipL s xs with
          | some ts => some (ts.map .tuple, frzRs ρ1 rs)
          | none => none)
        | none => none)
      | none => none)
    | none => none
/-- a comprehension's first items -/
def denF : Cl → Env → Option (List PyData × Env)
  | .last _ i _, ρ => denI i ρ
  | .more _ i _ _, ρ => denI i ρ
/-- a comprehension's clauses: what is listed -/
def denL (k : Env → Option (List PyData × Env)) : Cl → List PyData → Env → Option (List PyData × Env)
  | .last t _ ifs, xs, ρ => loopC (cBody mp t (fun ρ => denB true ifs ρ) k) xs ρ
  | .more t _ ifs c, xs, ρ => loopC (cBody mp t (fun ρ => denB true ifs ρ) (fun ρ => match denF c ρ with
    | some (ys, ρ1) => denL k c ys ρ1
    | none => none)) xs ρ
end

def opAug (o : Bn) (a b : PyData) : Option PyData := match o, a, b with
  | .add, .int i, .int j => some (.int (i + j))
  | .sub, .int i, .int j => some (.int (i - j))
  | .add, .tuple xs, .tuple ys => if szOk (xs.length + ys.length) then some (.tuple (xs ++ ys)) else none
  | _, _, _ => none
/-- borrowed results become shared ones -/
def fxR (ρ : Env) : List Res → Option (List Res)
  | [] => some []
  | .bor j :: rs => match valOf ρ (.bor j), fxR ρ rs with
    | some d, some r => some (.sh d :: r)
    | _, _ => none
  | r :: rs => match fxR ρ rs with
    | some q => some (r :: q)
    | none => none
/-- which are not borrowed -/
def notB : List Res → List Bool
  | [] => []
  | .bor _ :: rs => false :: notB rs
  | _ :: rs => true :: notB rs
/-- parallel targets take results -/
def asgPs : List Pt → List Res → Env → Option Env
  | [], [], ρ => some ρ
  | .tg (.var i) :: ts, r :: rs, ρ => match asgV mp i r ρ with
    | some ρ1 => asgPs ts rs ρ1
    | none => none
  | .tg (.tup t) :: ts, .sh d :: rs, ρ => match asgT mp (.tup t) d ρ with
    | some ρ1 => asgPs ts rs ρ1
    | none => none
  | .sub i k :: ts, .sh d :: rs, ρ => match ρ[i]? with
    | some (some (true, _)) => (match den Φ Mu mp k ρ with
      | some (rk, ρ1) => (match valOf ρ1 rk, valOf ρ1 (.bor i) with
        | some (.int j), some (.list xs) => (match L2.ixN xs.length j with
          | some n => asgPs ts rs (ρ1.set i (some (true, .list (xs.set n d))))
          | none => none)
        | _, _ => none)
      | none => none)
    | _ => none
  | .sub i k :: ts, .own d :: rs, ρ => match ρ[i]? with
    | some (some (true, _)) => (match den Φ Mu mp k ρ with
      | some (rk, ρ1) => (match valOf ρ1 rk, valOf ρ1 (.bor i) with
        | some (.int j), some (.list xs) => (match L2.ixN xs.length j with
          | some n => asgPs ts rs (ρ1.set i (some (true, .list (xs.set n d))))
          | none => none)
        | _, _ => none)
      | none => none)
    | _ => none
  | _, _, _ => none
mutual
noncomputable def exec : List Nat → St → Env → Option (Fl × Env)
  | mp, .exp e, ρ => match den Φ Mu mp e ρ with
    | some (_, ρ1) => some (.nx, ρ1)
    | none => none
  | mp, .asg t e, ρ => match den Φ Mu mp e ρ with
    | some (r, ρ1) => (match asgR mp t r ρ1 with
      | some ρ2 => some (.nx, ρ2)
      | none => none)
    | none => none
  | mp, .par ts es, ρ => match dens Φ Mu mp es ρ with
    | some (rs, ρ1) => (match fxR ρ1 rs with
      | some rs' => (match asgPs Φ Mu mp ts rs' (frzRs ρ1 (fz (notB rs) rs)) with
        | some ρ2 => some (.nx, ρ2)
        | none => none)
      | none => none)
    | none => none
  | mp, .set i k e, ρ => match dens Φ Mu mp (.cons e (.cons (.var i) (.cons k .nil))) ρ with
    | some ([re, .bor _, rk], ρ1) => (match valOf ρ1 re, valOf ρ1 rk, valOf (frzR ρ1 re) (.bor i) with
      | some d, some (.int j), some (.list xs) => (match L2.ixN xs.length j with
        | some n => some (.nx, (frzR ρ1 re).set i (some (true, .list (xs.set n d))))
        | none => none)
      | _, _, _ => none)
    | _ => none
  | mp, .aug i o e, ρ => match den Φ Mu mp (.var i) ρ with
    | some (.sh a, ρ1) => (match den Φ Mu mp e ρ1 with
      | some (r, ρ2) => (match valOf ρ2 r with
        | some b => (match opAug o a b with
          | some d => (match asgV mp i (.sh d) ρ2 with
            | some ρ3 => some (.nx, ρ3)
            | none => none)
          | none => none)
        | none => none)
      | none => none)
    | _ => none
  | mp, .aset i k o e, ρ => match dens Φ Mu mp (.cons (.var i) (.cons k .nil)) ρ with
    | some ([.bor _, rk], ρ1) => (match valOf ρ1 rk, valOf ρ1 (.bor i) with
      | some (.int j), some (.list xs) => (match L2.ixN xs.length j with
        | some n => (match xs[n]?, den Φ Mu mp e ρ1 with
          | some a, some (r, ρ2) => (match valOf ρ2 r with
            | some b => (match opAug o a b, valOf ρ2 (.bor i) with
              | some d, some (.list ys) => (match L2.ixN ys.length j with
                | some m => some (.nx, ρ2.set i (some (true, .list (ys.set m d))))
                | none => none)
              | _, _ => none)
            | none => none)
          | _, _ => none)
        | none => none)
      | _, _ => none)
    | _ => none
  | mp, .ret e, ρ => match den Φ Mu mp e ρ with
    | some (.sh d, ρ1) => some (.rt (false, d), ρ1)
    | some (.own d, ρ1) => some (.rt (true, d), ρ1)
    | some (.bor i, ρ1) => if mp.contains i then none else (match valOf ρ1 (.bor i) with
      | some d => some (.rt (true, d), ρ1)
      | none => none)
    | none => none
  | mp, .ret0, ρ => some (.rt (false, .none), ρ)
  | mp, .ite c a b, ρ => match den Φ Mu mp c ρ with
    | some (r, ρ1) => (match valOf ρ1 r with
      | some (.bool true) => execs mp a ρ1
      | some (.bool false) => execs mp b ρ1
      | _ => none)
    | none => none
  | mp, .for t i b, ρ => match denI Φ Mu mp i ρ with
    | some (xs, ρ1) => loopF (tgB mp t (fun ρ => execs mp b ρ)) xs ρ1
    | none => none
  | mp, .forO t enm i b, ρ => match ρ[i]? with
    | some (some (true, .list xs)) => loopO (fun ρ => ρ[i]? = some (some (true, .list xs))) (tgB (i :: mp) t (fun ρ => execs (i :: mp) b ρ)) (if enm then enumL xs else xs) ρ
    | _ => none
  | mp, .while c b, ρ => whileD (bT (den Φ Mu mp c)) (fun ρ => execs mp b ρ) ρ
  | mp, .pass, ρ => some (.nx, ρ)
  | mp, .brk, ρ => some (.br, ρ)
  | mp, .cont, ρ => some (.ct, ρ)
noncomputable def execs : List Nat → Sts → Env → Option (Fl × Env)
  | _, .nil, ρ => some (.nx, ρ)
  | mp, .cons s r, ρ => match exec mp s ρ with
    | some (.nx, ρ1) => execs mp r ρ1
    | some (.br, ρ1) => some (.br, ρ1)
    | some (.ct, ρ1) => some (.ct, ρ1)
    | some (.rt v, ρ1) => some (.rt v, ρ1)
    | none => none
end
end

/-! ### defs -/
structure Fn where
  name : String
  /-- which parameters change -/
  mu : List Bool
  /-- how many slots -/
  slots : Nat
  body : Sts
def mutIx : Nat → List Bool → List Nat
  | _, [] => []
  | k, true :: r => k :: mutIx (k + 1) r
  | k, false :: r => mutIx (k + 1) r
def finals (ρ : Env) : List Nat → Option (List PyData)
  | [] => some []
  | i :: is => match valOf ρ (.bor i), finals ρ is with
    | some d, some ds => some (d :: ds)
    | _, _ => none
def startE (n : Nat) (vs : List (Bool × PyData)) : Env := vs.map some ++ List.replicate (n - vs.length) none
/-- the table's defs, n calls deep -/
noncomputable def run (T : List Fn) : Nat → Ph
  | 0, _, _ => none
  | n + 1, f, vs => match T[f]? with
    | some F => if vs.map (·.1) = F.mu then
        (match execs (run T n) (fun g => ((T[g]?).map (·.mu)).getD []) (mutIx 0 F.mu) F.body (startE F.slots vs) with
        | some (.rt r, ρ) => (match finals ρ (mutIx 0 F.mu) with
          | some ds => some (r, ds)
          | none => none)
        | some (.nx, ρ) => (match finals ρ (mutIx 0 F.mu) with
          | some ds => some ((false, .none), ds)
          | none => none)
        | _ => none)
      else none
    | none => none
end MP

/-! MP: data in the abstract heap. -/
namespace MP
open PySem PySem.Spec PyProof.Rows L2

/-- what is read, and the world -/
structure MKx where
  fr : PySem.W.Frag
  w : World
instance : CoeOut MKx PySem.W.Frag := ⟨MKx.fr⟩
abbrev kw (X : Cx) : MKx := ⟨X.K, X.w⟩
/-! ### values that stand for data -/
mutual
inductive Rep (K : MKx) (H : Hp) : V → PyData → Prop where
  | non : Rep K H .non .none
  | bl (b) : Rep K H (.bl b) (.bool b)
  | int (i) : Rep K H (.int i) (.int i)
  | str (x) : Rep K H (.str x) (.str x)
  | tup {a xs ds} : SqT K H a xs → RepAll K H xs ds → Rep K H (.ref a) (.tuple ds)
  | lst {a o xs ds} : H a = some (.frz o (.lst xs)) → a ≠ sysModules → RepAll K H xs ds → Rep K H (.ref a) (.list ds)
  | dic {a o} : H a = some (.frz o (.dK [])) → Rep K H (.ref a) (.dict [])
inductive RepAll (K : MKx) (H : Hp) : List V → List PyData → Prop where
  | nil : RepAll K H [] []
  | cons {x xs d ds} : Rep K H x d → RepAll K H xs ds → RepAll K H (x :: xs) (d :: ds)
end
/-- what is fixed stays -/
def Ext (H H' : Hp) : Prop := ∀ a, (∀ xs, H a = some (.tup xs) → H' a = some (.tup xs)) ∧ ∀ o u, H a = some (.frz o u) → H' a = some (.frz o u)
theorem Ext.refl (H : Hp) : Ext H H := fun _ => ⟨fun _ e => e, fun _ _ e => e⟩
theorem Ext.trans {H H1 H2 : Hp} (a : Ext H H1) (b : Ext H1 H2) : Ext H H2 := fun c => ⟨fun xs e => (b c).1 xs ((a c).1 xs e), fun o u e => (b c).2 o u ((a c).2 o u e)⟩
theorem Ext.all {H H' : Hp} (h : ∀ a o, H a = some o → H' a = some o) : Ext H H' := fun a => ⟨fun xs e => h a _ e, fun o u e => h a _ e⟩
theorem SqT.ext {K : PySem.W.Frag} {H H' : Hp} {a : Addr} {xs : List V} (e : Ext H H') (h : SqT K H a xs) : SqT K H' a xs := by
  rcases h with (h | ⟨o, h⟩) | h
  · exact .inl (.inl ((e a).1 _ h))
  · exact .inl (.inr ⟨o, (e a).2 _ _ h⟩)
  · exact .inr h
mutual
theorem Rep.ext {K : MKx} {H H' : Hp} (e : Ext H H') : ∀ {x : V} {d : PyData}, Rep K H x d → Rep K H' x d
  | _, _, .non => .non
  | _, _, .bl b => .bl b
  | _, _, .int i => .int i
  | _, _, .str x => .str x
  | _, _, .tup h r => .tup (SqT.ext e h) (RepAll.ext e r)
  | _, _, .lst h n r => .lst ((e _).2 _ _ h) n (RepAll.ext e r)
  | _, _, .dic h => .dic ((e _).2 _ _ h)
theorem RepAll.ext {K : MKx} {H H' : Hp} (e : Ext H H') : ∀ {xs : List V} {ds : List PyData}, RepAll K H xs ds → RepAll K H' xs ds
  | _, _, .nil => .nil
  | _, _, .cons a b => .cons (Rep.ext e a) (RepAll.ext e b)
end
section
variable {K : MKx} {H H' : Hp}
theorem RepAll.length : ∀ {xs : List V} {ds : List PyData}, RepAll K H xs ds → xs.length = ds.length
  | _, _, .nil => rfl
  | _, _, .cons _ r => by rw [List.length_cons, List.length_cons, RepAll.length r]
theorem RepAll.get : ∀ {xs : List V} {ds : List PyData} {i : Nat} {d : PyData}, RepAll K H xs ds → ds[i]? = some d → ∃ x, xs[i]? = some x ∧ Rep K H x d
  | _, _, _, _, .nil, e => by simp at e
  | _, _, 0, _, .cons a _, e => by
    simp at e
    subst e
    exact ⟨_, rfl, a⟩
  | _, _, i + 1, _, .cons _ r, e => by
    obtain ⟨x, h1, h2⟩ := RepAll.get (i := i) r (by simpa using e)
    exact ⟨x, by simpa using h1, h2⟩
theorem RepAll.get' {xs : List V} {ds : List PyData} {i : Nat} {x : V} (r : RepAll K H xs ds) (e : xs[i]? = some x) : ∃ d, ds[i]? = some d ∧ Rep K H x d := by
  have hi : i < xs.length := (List.getElem?_eq_some_iff.mp e).1
  have hd : i < ds.length := by rw [← r.length]; exact hi
  obtain ⟨y, h1, h2⟩ := r.get (List.getElem?_eq_getElem hd)
  rw [e] at h1
  cases h1
  exact ⟨_, List.getElem?_eq_getElem hd, h2⟩
theorem RepAll.append : ∀ {xs ys : List V} {ds es : List PyData}, RepAll K H xs ds → RepAll K H ys es → RepAll K H (xs ++ ys) (ds ++ es)
  | _, _, _, _, .nil, s => s
  | _, _, _, _, .cons a r, s => .cons a (RepAll.append r s)
theorem RepAll.take : ∀ {xs : List V} {ds : List PyData} (n : Nat), RepAll K H xs ds → RepAll K H (xs.take n) (ds.take n)
  | _, _, 0, _ => .nil
  | _, _, _ + 1, .nil => .nil
  | _, _, n + 1, .cons a r => .cons a (RepAll.take n r)
theorem RepAll.drop : ∀ {xs : List V} {ds : List PyData} (n : Nat), RepAll K H xs ds → RepAll K H (xs.drop n) (ds.drop n)
  | _, _, 0, r => r
  | _, _, _ + 1, .nil => .nil
  | _, _, n + 1, .cons _ r => RepAll.drop n r
theorem RepAll.set {x : V} {d : PyData} (h : Rep K H x d) : ∀ {xs : List V} {ds : List PyData} (n : Nat), RepAll K H xs ds → RepAll K H (xs.set n x) (ds.set n d)
  | _, _, _, .nil => .nil
  | _, _, 0, .cons _ r => .cons h r
  | _, _, n + 1, .cons a r => .cons a (RepAll.set h n r)
theorem RepAll.reverse : ∀ {xs : List V} {ds : List PyData}, RepAll K H xs ds → RepAll K H xs.reverse ds.reverse
  | _, _, .nil => .nil
  | _, _, .cons a r => by
    rw [List.reverse_cons, List.reverse_cons]
    exact RepAll.append (RepAll.reverse r) (.cons a .nil)
theorem RepAll.eraseIdx : ∀ {xs : List V} {ds : List PyData} (n : Nat), RepAll K H xs ds → RepAll K H (xs.eraseIdx n) (ds.eraseIdx n)
  | _, _, _, .nil => .nil
  | _, _, 0, .cons _ r => r
  | _, _, n + 1, .cons a r => .cons a (RepAll.eraseIdx n r)
theorem RepAll.flatten {xs : List V} {ds : List PyData} (r : RepAll K H xs ds) : ∀ n : Nat, RepAll K H (List.replicate n xs).flatten (List.replicate n ds).flatten
  | 0 => .nil
  | n + 1 => by
    rw [List.replicate_succ, List.replicate_succ, List.flatten_cons, List.flatten_cons]
    exact r.append (RepAll.flatten r n)
theorem RepAll.dropLast {xs : List V} {ds : List PyData} (r : RepAll K H xs ds) : RepAll K H xs.dropLast ds.dropLast := by
  rw [List.dropLast_eq_take, List.dropLast_eq_take, r.length]
  exact r.take _
end

/-- an owned list -/
def OwnL (K : MKx) (H : Hp) (p : Addr) (ds : List PyData) : Prop := ∃ xs, H p = some (.lst xs) ∧ RepAll K H xs ds
/-- what may be read as d -/
def Readable (K : MKx) (H : Hp) (x : V) (d : PyData) : Prop := Rep K H x d ∨ ∃ p ds, x = .ref p ∧ d = .list ds ∧ OwnL K H p ds
inductive ReadAll (K : MKx) (H : Hp) : List V → List PyData → Prop where
  | nil : ReadAll K H [] []
  | cons {x xs d ds} : Readable K H x d → ReadAll K H xs ds → ReadAll K H (x :: xs) (d :: ds)

/-! ### the heap says so -/
mutual
theorem Rep.reads {P : Program} {w : World} {K : MKx} {H : Hp} {h : Heap} (ok : HOk P w H h) (kin : K.fr.In h) : ∀ {x : V} {d : PyData} {u : Value}, Rep K H x d → RelV x u → ∃ as, Reads h u d as ∧ (sysModules ∉ as)
  | _, _, _, .non, r => by cases r; exact ⟨_, .none, by simp⟩
  | _, _, _, .bl b, r => by cases r; exact ⟨_, .bool b, by simp⟩
  | _, _, _, .int i, r => by obtain ⟨t, rfl⟩ := r; exact ⟨_, .int i t, by simp⟩
  | _, _, _, .str x, r => by obtain ⟨t, rfl⟩ := r; exact ⟨_, .str x t, by simp⟩
  | _, _, _, .tup hs ra, r => by
    cases r
    rcases hs with hs | ⟨o, its, n, hk, hc, hd, hz, rv⟩
    · obtain ⟨z, its, rv, o, e, hc, n, hd⟩ := hs.ok ok
      obtain ⟨as, q, ns⟩ := RepAll.reads ok kin ra rv
      exact ⟨_, .tuple e hc hd q, ns⟩
    · obtain ⟨as, q, ns⟩ := RepAll.reads ok kin ra rv
      exact ⟨_, .tuple (kin _ _ hk) hc hd q, ns⟩
  | _, _, _, .lst (a := a) (o := o) (xs := xs) hs ne ra, r => by
    cases r
    obtain ⟨e, z, its, n, rv, e2⟩ := (show ObjOk P w H h a (.frz o (.lst xs)) from ok a _ hs)
    obtain ⟨as, q, ns⟩ := RepAll.reads ok kin ra rv
    exact ⟨_, .list e2 rfl rfl (by simpa using q), by simp only [List.mem_cons, not_or]; exact ⟨fun z => ne z.symm, ns⟩⟩
  | _, _, _, .dic (a := a) (o := o) hs, r => by
    cases r
    obtain ⟨e, z, ns, vs, kv, o', es, ep, e2, ex, ed, ek, ep2, nd⟩ := (show ObjOk P w H h a (.frz o (.dK [])) from ok a _ hs)
    cases kv
    have hes : es.toList = [] := by
      generalize es.toList = l at ep2
      cases ep2
      rfl
    refine ⟨_, .dict e2 ex.1 ed (kvs := []) (by rw [hes]; exact .nil) (by rw [hes]; exact .nil), ?_⟩
    have ns' : a ≠ sysModules := by simpa using ns
    simp only [List.append_nil, List.mem_cons, List.not_mem_nil, or_false]
    exact fun z => ns' z.symm
theorem RepAll.reads {P : Program} {w : World} {K : MKx} {H : Hp} {h : Heap} (ok : HOk P w H h) (kin : K.fr.In h) : ∀ {xs : List V} {ds : List PyData} {us : List Value}, RepAll K H xs ds → Vals xs us → ∃ as, ReadsAll h us ds as ∧ (sysModules ∉ as)
  | _, _, _, .nil, .nil => ⟨_, .nil, by simp⟩
  | _, _, _, .cons a b, .cons r rs => by
    obtain ⟨as, q, n1⟩ := Rep.reads ok kin a r
    obtain ⟨bs, q2, n2⟩ := RepAll.reads ok kin b rs
    exact ⟨_, .cons q q2, by simp [n1, n2]⟩
end
theorem Readable.reads {P : Program} {w : World} {K : MKx} {H : Hp} {h : Heap} (ok : HOk P w H h) (kin : K.fr.In h) (ns : ∀ a o, H a = some o → a ≠ sysModules) {x : V} {d : PyData} {u : Value} (r : Readable K H x d) (q : RelV x u) :
    ∃ as, Reads h u d as ∧ (sysModules ∉ as) := by
  rcases r with r | ⟨p, ds, rfl, rfl, xs, hp, ra⟩
  · exact r.reads ok kin q
  · cases q
    obtain ⟨z, its, n, rv, e2⟩ := (show ObjOk P w H h p (.lst xs) from ok p _ hp)
    obtain ⟨as, q, nm⟩ := RepAll.reads ok kin ra rv
    exact ⟨_, .list e2 rfl rfl (by simpa using q), by simp only [List.mem_cons, not_or]; exact ⟨fun z => ns p _ hp z.symm, nm⟩⟩
theorem ReadAll.length {K : MKx} {H : Hp} : ∀ {xs : List V} {ds : List PyData}, ReadAll K H xs ds → xs.length = ds.length
  | _, _, .nil => rfl
  | _, _, .cons _ r => by rw [List.length_cons, List.length_cons, ReadAll.length r]
theorem RepAll.readAll {K : MKx} {H : Hp} : ∀ {xs : List V} {ds : List PyData}, RepAll K H xs ds → ReadAll K H xs ds
  | _, _, .nil => .nil
  | _, _, .cons a r => .cons (.inl a) (RepAll.readAll r)

/-! ### slots -/
def Owned (σ : L2.St) (ρ : Env) (a : Addr) : Prop := ∃ (i : Nat) (d : PyData), ρ[i]? = some (some (true, d)) ∧ σ[i]? = some (some (V.ref a))
structure EnvRel (K : MKx) (σ : L2.St) (ρ : Env) (H : Hp) : Prop where
  len : ρ.length = σ.length
  sh : ∀ (i : Nat) (d : PyData), ρ[i]? = some (some (false, d)) → ∃ x, σ[i]? = some (some x) ∧ Rep K H x d
  own : ∀ (i : Nat) (d : PyData), ρ[i]? = some (some (true, d)) → ∃ p ds, σ[i]? = some (some (V.ref p)) ∧ d = .list ds ∧ OwnL K H p ds
  inj : ∀ (i j : Nat) (d e : PyData) (p : Addr), ρ[i]? = some (some (true, d)) → ρ[j]? = some (some (true, e)) → σ[i]? = some (some (V.ref p)) → σ[j]? = some (some (V.ref p)) → i = j
section
variable {K : MKx} {σ : L2.St} {ρ ρ' : Env} {H H' : Hp}
theorem EnvRel.owned (R : EnvRel K σ ρ H) {a : Addr} (h : Owned σ ρ a) : ∃ xs, H a = some (.lst xs) := by
  obtain ⟨i, d, h1, h2⟩ := h
  obtain ⟨p, ds, e, _, xs, hp, _⟩ := R.own i d h1
  rw [h2] at e
  cases e
  exact ⟨xs, hp⟩
/-- all that is not owned stays -/
def Keeps (σ : L2.St) (ρ : Env) (H H' : Hp) : Prop := ∀ a o, H a = some o → ¬ Owned σ ρ a → H' a = some o
theorem EnvRel.ext (R : EnvRel K σ ρ H) (k : Keeps σ ρ H H') : Ext H H' := by
  intro a
  refine ⟨fun xs e => k a _ e fun z => ?_, fun o u e => k a _ e fun z => ?_⟩
  · obtain ⟨ys, q⟩ := R.owned z
    rw [e] at q
    cases q
  · obtain ⟨ys, q⟩ := R.owned z
    rw [e] at q
    cases q
theorem valOf_bor {i : Nat} {d : PyData} (e : valOf ρ (.bor i) = some d) : ρ[i]? = some (some (true, d)) := by
  unfold valOf at e
  simp only at e
  split at e
  · cases e
    assumption
  · cases e
theorem valOf_bor' {i : Nat} {d : PyData} (e : ρ[i]? = some (some (true, d))) : valOf ρ (.bor i) = some d := by
  unfold valOf
  simp only [e]
/-- how a result lies -/
def ResRel (K : MKx) (σ : L2.St) (H H' : Hp) : Res → V → Prop
  | .sh d, x => Rep K H' x d
  | .own d, x => ∃ p ds, x = .ref p ∧ d = .list ds ∧ OwnL K H' p ds ∧ H p = none
  | .bor i, x => ∃ p, x = .ref p ∧ σ[i]? = some (some (V.ref p))
/-- what a step leaves -/
structure Stp (K : MKx) (σ : L2.St) (ρ : Env) (H : Hp) (σ' : L2.St) (ρ' : Env) (H' : Hp) : Prop where
  env : EnvRel K σ' ρ' H'
  keep : Keeps σ ρ H H'
  less : ∀ a, Owned σ' ρ' a → Owned σ ρ a
  there : ∀ a o, H a = some o → ∃ o', H' a = some o'
/-- what an expression leaves -/
abbrev Out (K : MKx) (σ : L2.St) (ρ : Env) (H : Hp) (ρ' : Env) (H' : Hp) : Prop := Stp K σ ρ H σ ρ' H'
theorem Out.refl (R : EnvRel K σ ρ H) : Out K σ ρ H ρ H := ⟨R, fun _ _ e _ => e, fun _ h => h, fun _ o e => ⟨o, e⟩⟩
theorem Stp.trans {σ1 σ2 : L2.St} {ρ1 ρ2 : Env} {H1 H2 : Hp} (a : Stp K σ ρ H σ1 ρ1 H1) (b : Stp K σ1 ρ1 H1 σ2 ρ2 H2) : Stp K σ ρ H σ2 ρ2 H2 :=
  ⟨b.env, fun c o e n => b.keep c o (a.keep c o e n) fun z => n (a.less c z), fun c h => a.less c (b.less c h), fun c o e => let ⟨o', e'⟩ := a.there c o e; b.there c o' e'⟩
theorem Stp.ext {σ' : L2.St} (a : Stp K σ ρ H σ' ρ' H') (R : EnvRel K σ ρ H) : Ext H H' := R.ext a.keep
/-- a result stays while another expression runs -/
theorem ResRel.stay {ρ1 ρ2 : Env} {H1 H2 : Hp} {r : Res} {x : V} (R : EnvRel K σ ρ H) (a : Out K σ ρ H ρ1 H1) (h : ResRel K σ H H1 r x) (b : Out K σ ρ1 H1 ρ2 H2) : ResRel K σ H H2 r x := by
  cases r with
  | sh d => exact Rep.ext (b.ext a.env) h
  | own d =>
    obtain ⟨p, ds, e1, e2, ⟨xs, hp, ra⟩, n⟩ := h
    refine ⟨p, ds, e1, e2, ⟨xs, b.keep p _ hp fun z => ?_, ra.ext (b.ext a.env)⟩, n⟩
    obtain ⟨ys, q⟩ := R.owned (a.less p z)
    rw [n] at q
    cases q
  | bor i => exact h
theorem ResRel.readable {r : Res} {x : V} {d : PyData} (R : EnvRel K σ ρ' H') (h : ResRel K σ H H' r x) (e : valOf ρ' r = some d) : Readable K H' x d := by
  cases r with
  | sh d' =>
    cases e
    exact .inl h
  | own d' =>
    cases e
    obtain ⟨p, ds, e1, e2, o, n⟩ := h
    exact .inr ⟨p, ds, e1, e2, o⟩
  | bor i =>
    obtain ⟨p, e1, e2⟩ := h
    obtain ⟨p', ds, e3, e4, o⟩ := R.own i _ (valOf_bor e)
    rw [e2] at e3
    cases e3
    exact .inr ⟨p, ds, e1, e4, o⟩
end
end MP

/-! MP: readings. -/
namespace MP
open PySem PySem.Spec PyProof.Rows L2

section
variable {X : Cx}
theorem PE.imp {e : Expr} {t t' : TE} (h : PE X e t) (i : ∀ σ H Q, t' σ H Q → t σ H Q) : PE X e t' := ⟨fun pins s σ H Q I q => h.run pins s σ H Q I (i _ _ _ q)⟩
theorem PT.imp {e : Expr} {t t' : TT} (h : PT X e t) (i : ∀ σ H Q, t' σ H Q → t σ H Q) : PT X e t' := ⟨fun pins s σ H Q I q => h.run pins s σ H Q I (i _ _ _ q)⟩
theorem PW.imp {e : Expr} {t t' : TT} (h : PW X e t) (i : ∀ σ H Q, t' σ H Q → t σ H Q) : PW X e t' := ⟨fun wh pins s σ H Q I q => h.run wh pins s σ H Q I (i _ _ _ q)⟩
theorem PA.imp {es : List Expr} {t t' : TA} (h : PA X es t) (i : ∀ σ H Q, t' σ H Q → t σ H Q) : PA X es t' := ⟨fun pos pins s σ H Q I q => h.run pos pins s σ H Q I (i _ _ _ q)⟩
theorem PS.imp {st : Stmt} {t t' : TS} (h : PS X st t) (i : ∀ D σ H, t' D σ H → t D σ H) : PS X st t' := ⟨fun pins s σ H D I q => h.run pins s σ H D I (i _ _ _ q)⟩
theorem PSs.imp {st : List Stmt} {t t' : TS} (h : PSs X st t) (i : ∀ D σ H, t' D σ H → t D σ H) : PSs X st t' := ⟨fun pins s σ H D I q => h.run pins s σ H D I (i _ _ _ q)⟩
theorem PG.imp {e : Expr} {t t' : TG} (h : PG X e t) (i : ∀ v σ H Q, t' v σ H Q → t v σ H Q) : PG X e t' := ⟨fun pins s σ H v u Q I r q => h.run pins s σ H v u Q I r (i _ _ _ _ q)⟩

/-- sys.modules is a written thing: nothing tracked stands there -/
def Sys (X : Cx) : Prop := ∃ o, X.K.lookup sysModules = some o
theorem ns_of {pins : List (Addr × Obj)} {σ : L2.St} {H : Hp} {s : Shared} (S : Sys X) (I : Inv X pins σ H s) : ∀ a o, H a = some o → a ≠ sysModules := by
  rintro a o e rfl
  obtain ⟨ob, h⟩ := S
  have q := (I.bs sysModules ob (I.ok.mod.kin _ _ h)).2
  rw [e] at q
  cases q
end

/-! ### locking -/
/-- lists are locked, then Q -/
inductive Lk (Q : Hp → Prop) : Hp → Prop where
  | done {H} : Q H → Lk Q H
  | lock {H} (p : Addr) (xs : List V) : H p = some (.lst xs) → (∀ o, p ≠ sysModules → Lk Q (upd H p (.frz o (.lst xs)))) → Lk Q H
theorem lk_run {X : Cx} (S : Sys X) {pins : List (Addr × Obj)} {σ : L2.St} {s : Shared} {Q : Hp → Prop} {H : Hp} (I : Inv X pins σ H s) (h : Lk Q H) : ∃ H', Inv X pins σ H' s ∧ Q H' := by
  induction h with
  | done q => exact ⟨_, I, q⟩
  | lock p xs e k ih =>
    obtain ⟨od, I'⟩ := I.lock e trivial
    exact ih od (ns_of S I _ _ e) I'
section
variable {X : Cx}
theorem PE.lk {e : Expr} {t : TE} (S : Sys X) (h : PE X e t) : PE X e (fun σ H Q => t σ H fun x H1 => Lk (Q x) H1) := ⟨fun pins s σ H Q I q =>
  thn (h.run pins s σ H _ I q) fun u s' ⟨x, H1, I1, r, q1⟩ => let ⟨H', I', q'⟩ := lk_run S I1 q1; ⟨x, H', I', r, q'⟩⟩
theorem PA.lk {es : List Expr} {t : TA} (S : Sys X) (h : PA X es t) : PA X es (fun σ H Q => t σ H fun x H1 => Lk (Q x) H1) := ⟨fun pos pins s σ H Q I q =>
  thn (h.run pos pins s σ H _ I q) fun u s' ⟨x, H1, I1, r, q1⟩ => let ⟨H', I', q'⟩ := lk_run S I1 q1; ⟨x, H', I', r, q'⟩⟩
end

/-! ### readings of meanings -/
abbrev DE := Env → Option (Res × Env)
abbrev DEs := Env → Option (List Res × Env)
def tM (K : MKx) (D : DE) : TE := fun σ H Q => ∃ ρ r ρ', EnvRel K σ ρ H ∧ D ρ = some (r, ρ') ∧ ∀ x H', Out K σ ρ H ρ' H' → ResRel K σ H H' r x → Q x H'
def owns : List Res → List V → List Addr
  | .own _ :: rs, .ref p :: xs => p :: owns rs xs
  | _ :: rs, _ :: xs => owns rs xs
  | _, _ => []
inductive ResAll (K : MKx) (σ : L2.St) (H H' : Hp) : List Res → List V → Prop where
  | nil : ResAll K σ H H' [] []
  | cons {r x rs xs} : ResRel K σ H H' r x → ResAll K σ H H' rs xs → ResAll K σ H H' (r :: rs) (x :: xs)
def tMs (K : MKx) (D : DEs) : TA := fun σ H Q => ∃ ρ rs ρ', EnvRel K σ ρ H ∧ D ρ = some (rs, ρ') ∧ ∀ xs H', Out K σ ρ H ρ' H' → ResAll K σ H H' rs xs → (owns rs xs).Nodup → Q xs H'
section
variable {K : MKx} {σ : L2.St} {ρ ρ' : Env} {H H' : Hp}
theorem ResAll.owns_at : ∀ {rs : List Res} {xs : List V}, ResAll K σ H H' rs xs → ∀ p ∈ owns rs xs, H p = none ∧ ∃ xs, H' p = some (.lst xs)
  | _, _, .nil, p, hp => by simp [owns] at hp
  | _, _, .cons (r := r) (x := x) (rs := rs) (xs := xs) a b, p, hp => by
    cases r with
    | own d =>
      obtain ⟨q, ds, rfl, _, ⟨ys, h1, _⟩, h2⟩ := a
      simp only [owns, List.mem_cons] at hp
      rcases hp with rfl | hp
      · exact ⟨h2, ys, h1⟩
      · exact ResAll.owns_at b p hp
    | sh d => exact ResAll.owns_at b p (by simpa [owns] using hp)
    | bor i => exact ResAll.owns_at b p (by simpa [owns] using hp)
/-- fresh ahead of a step, fresh ahead of it all -/
theorem ResRel.early {ρ1 : Env} {H1 : Hp} {r : Res} {x : V} (R : EnvRel K σ ρ H) (a : Out K σ ρ H ρ1 H1) (h : ResRel K σ H1 H' r x) : ResRel K σ H H' r x := by
  cases r with
  | sh d => exact h
  | bor i => exact h
  | own d =>
    obtain ⟨p, ds, e1, e2, e3, n⟩ := h
    refine ⟨p, ds, e1, e2, e3, ?_⟩
    cases q : H p with
    | none => rfl
    | some o =>
      obtain ⟨o', q'⟩ := a.there p o q
      rw [n] at q'
      cases q'
theorem ResAll.early {ρ1 : Env} {H1 : Hp} (R : EnvRel K σ ρ H) (a : Out K σ ρ H ρ1 H1) : ∀ {rs : List Res} {xs : List V}, ResAll K σ H1 H' rs xs → ResAll K σ H H' rs xs
  | _, _, .nil => .nil
  | _, _, .cons h r => .cons (h.early R a) (ResAll.early R a r)
theorem ResAll.readAll : ∀ {rs : List Res} {xs : List V} {ds : List PyData}, EnvRel K σ ρ' H' → ResAll K σ H H' rs xs → valsOf ρ' rs = some ds → ReadAll K H' xs ds
  | _, _, _, _, .nil, e => by
    cases e
    exact .nil
  | _, _, _, R, .cons (r := r) (rs := rs) a b, e => by
    unfold valsOf at e
    cases q : valOf ρ' r with
    | none => simp [q] at e
    | some d =>
      cases q2 : valsOf ρ' rs with
      | none => simp [q, q2] at e
      | some ds =>
        simp only [q, q2] at e
        cases e
        exact .cons (a.readable R q) (ResAll.readAll R b q2)
theorem tMs_nil {Q : List V → Hp → Prop} {es : Env → Option (List Res × Env)} (he : ∀ ρ, es ρ = some ([], ρ)) (h : tMs K es σ H Q) : tNil σ H Q := by
  obtain ⟨ρ, rs, ρ', R, e, k⟩ := h
  rw [he] at e
  cases e
  exact k [] H (.refl R) .nil (by simp [owns])
/-- the first, then the others -/
theorem fxB_eq (i : Nat) : ∀ o o' : Option (Option (Bool × PyData)), fxB i o o' = .bor i ∨ ∃ d, fxB i o o' = .sh d ∧ o' = some (some (false, d))
  | none, _ => .inl rfl
  | some none, _ => .inl rfl
  | some (some (false, _)), _ => .inl rfl
  | some (some (true, _)), none => .inl rfl
  | some (some (true, _)), some none => .inl rfl
  | some (some (true, _)), some (some (true, _)) => .inl rfl
  | some (some (true, _)), some (some (false, d)) => .inr ⟨d, rfl, rfl⟩
theorem fixB_eq (ρ1 ρ2 : Env) (r : Res) : fixB ρ1 ρ2 r = r ∨ ∃ i d, r = .bor i ∧ fixB ρ1 ρ2 r = .sh d ∧ ρ2[i]? = some (some (false, d)) := by
  cases r with
  | sh d => exact .inl rfl
  | own d => exact .inl rfl
  | bor i =>
    rcases fxB_eq i ρ1[i]? ρ2[i]? with h | ⟨d, h1, h2⟩
    · exact .inl h
    · exact .inr ⟨i, d, rfl, h1, h2⟩
theorem fixB_same (ρ : Env) (r : Res) : fixB ρ ρ r = r := by
  rcases fixB_eq ρ ρ r with h | ⟨i, d, rfl, h1, h2⟩
  · exact h
  · exfalso
    have e : fixB ρ ρ (.bor i) = fxB i ρ[i]? ρ[i]? := rfl
    rw [e, h2] at h1
    cases h1
theorem tMs_cons {Q : List V → Hp → Prop} {D : DE} {Ds Dr : DEs} (he : ∀ ρ, Ds ρ = match D ρ with
      | some (x, ρ1) => (match Dr ρ1 with
        | some (xs, ρ2) => some (fixB ρ1 ρ2 x :: xs, ρ2)
        | none => none)
      | none => none) (h : tMs K Ds σ H Q) : tCons (tM K D) (tMs K Dr) σ H Q := by
  obtain ⟨ρ, rs, ρ', R, e, k⟩ := h
  rw [he] at e
  cases q : D ρ with
  | none => simp [q] at e
  | some y =>
    obtain ⟨r, ρ1⟩ := y
    cases q2 : Dr ρ1 with
    | none => simp [q, q2] at e
    | some z =>
      obtain ⟨rs', ρ2⟩ := z
      simp only [q, q2] at e
      cases e
      refine ⟨ρ, r, ρ1, R, q, fun x H1 o1 r1 => ?_⟩
      refine ⟨ρ1, rs', ρ', o1.env, q2, fun xs H2 o2 r2 nd => ?_⟩
      have nd2 : (owns (fixB ρ1 ρ' r :: rs') (x :: xs)) = owns (r :: rs') (x :: xs) := by
        rcases fixB_eq ρ1 ρ' r with z | ⟨i, d, rfl, z, _⟩
        · rw [z]
        · rw [z]
          simp [owns]
      have rr : ResRel K σ H H2 (fixB ρ1 ρ' r) x := by
        rcases fixB_eq ρ1 ρ' r with z | ⟨i, d, rfl, z, hi⟩
        · rw [z]
          exact r1.stay R o1 o2
        · rw [z]
          obtain ⟨p, e1, e2⟩ := r1
          obtain ⟨y, g1, g2⟩ := o2.env.sh i d hi
          rw [e2] at g1
          cases g1
          subst e1
          exact g2
      refine k (x :: xs) H2 (o1.trans o2) (.cons rr (r2.early R o1)) ?_
      rw [nd2]
      cases r with
      | sh d => simpa [owns] using nd
      | bor i => simpa [owns] using nd
      | own d =>
        obtain ⟨p, ds, rfl, _, ⟨ys, hp, _⟩, n⟩ := r1
        simp only [owns, List.nodup_cons]
        refine ⟨fun hm => ?_, nd⟩
        rw [(r2.owns_at p hm).1] at hp
        cases hp
end

/-! ### operations by values -/
def NewR (K : MKx) (H H' : Hp) (own : Bool) (d : PyData) (x : V) : Prop := if own = true then ∃ p ds, x = .ref p ∧ d = .list ds ∧ OwnL K H' p ds ∧ H p = none else Rep K H' x d
def rV (K : MKx) (o : Op) (xs : List V) (H : Hp) (Q : VK) : Prop :=
  ∃ ds own d, ReadAll K H xs ds ∧ opS o ds = some (own, d) ∧ ∀ x H', (∀ a ob, H a = some ob → H' a = some ob) → NewR K H H' own d x → Q x H'
section
variable {K : MKx} {σ : L2.St} {ρ ρ' : Env} {H H' : Hp}
/-- more is tracked -/
theorem EnvRel.more (R : EnvRel K σ ρ H) (k : ∀ a ob, H a = some ob → H' a = some ob) : EnvRel K σ ρ H' := by
  refine ⟨R.len, fun i d e => ?_, fun i d e => ?_, R.inj⟩
  · obtain ⟨x, h1, h2⟩ := R.sh i d e
    exact ⟨x, h1, h2.ext (Ext.all k)⟩
  · obtain ⟨p, ds, h1, h2, xs, h3, h4⟩ := R.own i d e
    exact ⟨p, ds, h1, h2, xs, k _ _ h3, h4.ext (Ext.all k)⟩
theorem Out.more (R : EnvRel K σ ρ H) (k : ∀ a ob, H a = some ob → H' a = some ob) : Out K σ ρ H ρ H' := ⟨R.more k, fun a o e _ => k a o e, fun _ h => h, fun a o e => ⟨o, k a o e⟩⟩
theorem NewR.res {own : Bool} {d : PyData} {x : V} (h : NewR K H H' own d x) : ResRel K σ H H' (mkR (own, d)) x := by
  cases own with
  | false => exact (if_neg Bool.false_ne_true).mp h
  | true => exact (if_pos rfl).mp h
end
/-- the meaning of an operation that stores none of its arguments -/
def dOp (o : Op) (Ds : DEs) : DE := fun ρ => match Ds ρ with
  | some (rs, ρ1) => (match valsOf ρ1 rs with
    | some ds => (match opS o ds with
      | some r => some (mkR r, ρ1)
      | none => none)
    | none => none)
  | none => none
theorem tM_op {K : MKx} {σ : L2.St} {H : Hp} {Q : VK} {o : Op} {Ds : DEs} (h : tM K (dOp o Ds) σ H Q) : tMs K Ds σ H (fun xs H2 => rV K o xs H2 Q) := by
  obtain ⟨ρ, r, ρ', R, e, k⟩ := h
  unfold dOp at e
  cases q : Ds ρ with
  | none => simp [q] at e
  | some y =>
    obtain ⟨rs, ρ1⟩ := y
    cases q2 : valsOf ρ1 rs with
    | none => simp [q, q2] at e
    | some ds =>
      cases q3 : opS o ds with
      | none => simp [q, q2, q3] at e
      | some z =>
        obtain ⟨own, d⟩ := z
        simp only [q, q2, q3] at e
        cases e
        refine ⟨ρ, rs, ρ', R, q, fun xs H2 o2 r2 _ => ⟨ds, own, d, r2.readAll o2.env q2, q3, fun x H' kk nr => ?_⟩⟩
        exact k x H' (Stp.trans o2 (Out.more o2.env kk)) (ResRel.early R o2 nr.res)
end MP

/-! MP: operations by values. -/
namespace MP
open PySem PySem.Spec PyProof.Rows L2

section
variable {K : MKx} {H H' : Hp} {x y : V} {xs : List V} {ds : List PyData}
theorem ra0 (h : ReadAll K H [] ds) : ds = [] := by cases h; rfl
theorem ra1 (h : ReadAll K H [x] ds) : ∃ a, ds = [a] ∧ Readable K H x a := by
  cases h with
  | cons a r =>
    cases r
    exact ⟨_, rfl, a⟩
theorem ra2 (h : ReadAll K H [x, y] ds) : ∃ a b, ds = [a, b] ∧ Readable K H x a ∧ Readable K H y b := by
  cases h with
  | cons a r =>
    obtain ⟨b, rfl, hb⟩ := ra1 r
    exact ⟨_, _, rfl, a, hb⟩
theorem Readable.int {i : Int} (h : Readable K H x (.int i)) : x = .int i := by
  rcases h with h | ⟨p, ds, _, e, _⟩
  · cases h; rfl
  · cases e
theorem Readable.bool {b : Bool} (h : Readable K H x (.bool b)) : x = .bl b := by
  rcases h with h | ⟨p, ds, _, e, _⟩
  · cases h; rfl
  · cases e
theorem Readable.str {z : Str} (h : Readable K H x (.str z)) : x = .str z := by
  rcases h with h | ⟨p, ds, _, e, _⟩
  · cases h; rfl
  · cases e
theorem Readable.none (h : Readable K H x .none) : x = .non := by
  rcases h with h | ⟨p, ds, _, e, _⟩
  · cases h; rfl
  · cases e
theorem Readable.tup (h : Readable K H x (.tuple ds)) : ∃ a xs, x = .ref a ∧ SqT K H a xs ∧ RepAll K H xs ds := by
  rcases h with h | ⟨p, ds, _, e, _⟩
  · cases h with
    | tup a b => exact ⟨_, _, rfl, a, b⟩
  · cases e
theorem Readable.lst (h : Readable K H x (.list ds)) : ∃ a xs, x = .ref a ∧ Rd H a (.lst xs) ∧ RepAll K H xs ds := by
  rcases h with h | ⟨p, es, rfl, e, xs, hp, r⟩
  · cases h with
    | lst a _ b => exact ⟨_, _, rfl, .inr ⟨_, a⟩, b⟩
  · cases e
    exact ⟨p, xs, rfl, .of hp, r⟩
/-- a list or a tuple -/
theorem Readable.seq {d : PyData} (h : Readable K H x d) (e : asSeq d = some ds) : (∃ a xs, d = .list ds ∧ x = .ref a ∧ Rd H a (.lst xs) ∧ RepAll K H xs ds) ∨ ∃ a xs, d = .tuple ds ∧ x = .ref a ∧ SqT K H a xs ∧ RepAll K H xs ds := by
  cases d with
  | list l =>
    cases e
    obtain ⟨a, xs, h1, h2, h3⟩ := h.lst
    exact .inl ⟨a, xs, rfl, h1, h2, h3⟩
  | tuple l =>
    cases e
    obtain ⟨a, xs, h1, h2, h3⟩ := h.tup
    exact .inr ⟨a, xs, rfl, h1, h2, h3⟩
  | _ => cases e
theorem lstR {X : Cx} {pins : List (Addr × Obj)} {σ : L2.St} {H : Hp} {s : Shared} {a : Addr} {xs : List V} (I : Inv X pins σ H s) (h : Rd H a (.lst xs)) :
    ∃ (its : List Value) (n : Nat), Vals xs its ∧ s.heap.get? a = some { cls := .type "list", data := .seq its.toArray n } ∧ xs.length ≤ sizeLine ∧ its.length = xs.length := by
  obtain ⟨z, its, n, r, e⟩ := h.ok I.hok
  exact ⟨its, n, r, e, z, r.length.symm⟩
theorem Ext.upd {p : Addr} {o : HO} (h : H p = none) : Ext H (upd H p o) := Ext.all fun a u e => by rw [upd_ne (ne_of_none e h)]; exact e
theorem kept_upd {p : Addr} {o : HO} (h : H p = none) : ∀ a u, H a = some u → upd H p o a = some u := fun a u e => by rw [upd_ne (ne_of_none e h)]; exact e
theorem new_tup {p : Addr} (h : H p = none) (r : RepAll K H xs ds) : NewR K H (upd H p (.tup xs)) false (.tuple ds) (.ref p) := (if_neg Bool.false_ne_true).mpr (.tup (.of upd_same) (r.ext (Ext.upd h)))
theorem new_lst {p : Addr} (h : H p = none) (r : RepAll K H xs ds) : NewR K H (upd H p (.lst xs)) true (.list ds) (.ref p) := (if_pos rfl).mpr ⟨p, ds, rfl, rfl, ⟨xs, upd_same, r.ext (Ext.upd h)⟩, h⟩
theorem new_sh {d : PyData} (r : Rep K H x d) : NewR K H H false d x := (if_neg Bool.false_ne_true).mpr r
end

/-! ### two ints and their like -/
abbrev OpV (X : Cx) (f : Value → Value → Sem Value) (o : Op) : Prop := OpR X f (fun x y H Q => rV (kw X) o [x, y] H Q)
abbrev UnV (X : Cx) (f : Value → Sem Value) (o : Op) : Prop := UnR X f (fun x H Q => rV (kw X) o [x] H Q)
abbrev CallV (X : Cx) (f : Value) (o : Op) : Prop := CallR X f (fun xs H Q => rV (kw X) o xs H Q)
section
variable {X : Cx}
/-- an int operation by its rule -/
theorem ov_int {f : Value → Value → Sem Value} {o : Op} {ok : Int → Int → Bool} {g : Int → Int → Int} (ho : ∀ a b, opS o [a, b] = bI ok g a b)
    (rule : ∀ (i j : Int) (t u : Tok) (s : Shared) (Q : Value → Shared → Prop) (E : Value → Shared → Prop), ok i j = true → Q (.int (g i j) s.toks) { s with toks := s.toks + 1 } → wpAny (model X.prog X.w) X.A (f (.int i t) (.int j u)) Q E s) : OpV X f o := by
  intro pins s σ H x y v u Q I rx ry ⟨ds, own, d, ra, e, k⟩
  obtain ⟨a, b, rfl, h1, h2⟩ := ra2 ra
  rw [ho] at e
  unfold bI at e
  split at e
  · rename_i i j
    split at e
    · rename_i hc
      cases e
      cases h1.int
      cases h2.int
      obtain ⟨t, rfl⟩ := rx
      obtain ⟨t', rfl⟩ := ry
      exact rule i j t t' s _ _ hc ⟨.int (g i j), H, I.tok _, ⟨_, rfl⟩, k _ H (fun _ _ e => e) (new_sh (.int _))⟩
    · cases e
  · cases e
theorem ov_sub : OpV X (binaryOp .Sub) (.bin .sub) := by
  intro pins s σ H x y v u Q I rx ry ⟨ds, own, d, ra, e, k⟩
  obtain ⟨a, b, rfl, h1, h2⟩ := ra2 ra
  replace e : bSub a b = some (own, d) := e
  unfold bSub at e
  split at e
  · cases e
    cases h1.int
    cases h2.int
    obtain ⟨t, rfl⟩ := rx
    obtain ⟨t', rfl⟩ := ry
    exact sub_int ⟨.int _, H, I.tok _, ⟨_, rfl⟩, k _ H (fun _ _ e => e) (new_sh (.int _))⟩
  · cases e
    cases h1.bool
    cases h2.int
    cases rx
    obtain ⟨t', rfl⟩ := ry
    exact IntBool.sub_bool_int ⟨.int _, H, I.tok _, ⟨_, rfl⟩, k _ H (fun _ _ e => e) (new_sh (.int _))⟩
  · cases e
theorem divOk_pos {j : Int} (h : divOk j = true) : 0 < j ∧ j.natAbs.log2 < 9000 := by
  unfold divOk at h
  simpa using h
theorem ov_fdiv : OpV X (binaryOp .FloorDiv) (.bin .fdiv) := ov_int (fun _ _ => rfl) fun i j _ _ _ _ _ hc q => by
  obtain ⟨h1, h2⟩ := divOk_pos hc
  exact floordiv_int (by omega) (by rw [Int.fdiv_eq_ediv_of_nonneg i (by omega)]; exact q) (.inl (PyProof.noPylong_of_log2 h2))
theorem ov_mod : OpV X (binaryOp .Mod) (.bin .mod) := ov_int (fun _ _ => rfl) fun i j _ _ _ _ _ hc q => by
  obtain ⟨h1, h2⟩ := divOk_pos hc
  exact mod_int' (by omega) (by rw [Int.fmod_eq_emod_of_nonneg i (by omega)]; exact q)
theorem ov_pow : OpV X (binaryOp .Pow) (.bin .pow) := ov_int (fun _ _ => rfl) fun i j _ _ _ _ _ hc q => by
  unfold powOk at hc
  simp only [Bool.and_eq_true, decide_eq_true_eq] at hc
  exact pow_int_small hc.1.1 hc.1.2 hc.2 q
theorem mulOk_ok {i j : Int} (h : mulOk i j = true) : IntMulOk i j := by
  unfold mulOk at h
  simp only [Bool.or_eq_true, decide_eq_true_eq] at h
  rcases h with (h | h) | h
  · exact .of_left (intBits_le_64 (by omega) (by omega))
  · exact .of_right (intBits_le_64 (by omega) (by omega))
  · exact CMulW.ok h
/-- an int comparison by its rule -/
theorem ov_cmpI {f : Value → Value → Sem Value} {o : Cm} {g : Int → Int → Bool} (ho : ∀ a b, cmp o a b = cI g a b)
    (rule : ∀ (i j : Int) (t u : Tok) (s : Shared) (Q : Value → Shared → Prop) (E : Value → Shared → Prop), Q (.bool (g i j)) s → wpAny (model X.prog X.w) X.A (f (.int i t) (.int j u)) Q E s) : OpV X f (.cmp o) := by
  intro pins s σ H x y v u Q I rx ry ⟨ds, own, d, ra, e, k⟩
  obtain ⟨a, b, rfl, h1, h2⟩ := ra2 ra
  simp only [opS, ho] at e
  unfold cI at e
  split at e
  · rename_i i j
    cases e
    cases h1.int
    cases h2.int
    obtain ⟨t, rfl⟩ := rx
    obtain ⟨t', rfl⟩ := ry
    exact rule i j t t' s _ _ ⟨.bl (g i j), H, I, rfl, k _ H (fun _ _ e => e) (new_sh (.bl _))⟩
  · cases e
theorem int_ge_bool (a : Bool) (b : Int) (u : Tok) :
    Gives (Builtin.«int.__ge__» ⟨[.bool a, .int b u], []⟩) (.val (Value.bool (decide ((if a = true then (1 : Int) else 0) ≥ b)))) :=
  .of_wp fun M A E s Q h => by obtain ⟨hp, g, d, tk, os⟩ := s; wp_walk; exact ⟨_, rfl, h⟩
theorem int_lt_bool (a : Bool) (b : Int) (u : Tok) :
    Gives (Builtin.«int.__lt__» ⟨[.bool a, .int b u], []⟩) (.val (Value.bool (decide ((if a = true then (1 : Int) else 0) < b)))) :=
  .of_wp fun M A E s Q h => by obtain ⟨hp, g, d, tk, os⟩ := s; wp_walk; exact ⟨_, rfl, h⟩
theorem le_int_bool {P : Program} {w : World} {A : Around} {E : Value → Shared → Prop} {s : Shared} {Q : Value → Shared → Prop} {a : Int} {t : Tok} {b : Bool} (h : Q (.bool (decide (a ≤ b2i b))) s) : wpAny (model P w) A (compareOp .LtE (.int a t) (.bool b)) Q E s := by
  show wpAny (model P w) A (richCompare .LtE (.int a t) (.bool b)) Q E s
  exact SeqAt.rc_sub_first_or (typeIs_int s a t) rfl (by decide) F.sub_bool_int F.slot_bool_ge_refl
    (call_gives F.slot_bool_ge_refl rfl F.entry_int_ge (F.args_int_ge_2 _ _) (int_ge_bool b a t) ⟨nofun, h⟩) (.inl rfl)
theorem lt_bool_int {P : Program} {w : World} {A : Around} {E : Value → Shared → Prop} {s : Shared} {Q : Value → Shared → Prop} {a : Bool} {b : Int} {u : Tok} (h : Q (.bool (decide (b2i a < b))) s) : wpAny (model P w) A (compareOp .Lt (.bool a) (.int b u)) Q E s := by
  show wpAny (model P w) A (richCompare .Lt (.bool a) (.int b u)) Q E s
  exact SeqAt.rc_left_or rfl (typeIs_int s b u) (by decide) F.sub_int_bool F.slot_bool_lt
    (call_gives F.slot_bool_lt rfl F.entry_int_lt (F.args_int_lt_2 _ _) (int_lt_bool a b u) ⟨nofun, h⟩) (.inl rfl)
theorem ov_le : OpV X (compareOp .LtE) (.cmp .le) := by
  intro pins s σ H x y v u Q I rx ry ⟨ds, own, d, ra, e, k⟩
  obtain ⟨a, b, rfl, h1, h2⟩ := ra2 ra
  obtain ⟨c, hc, e2⟩ := Option.map_eq_some_iff.mp e
  cases e2
  replace hc : cLe a b = some c := hc
  unfold cLe at hc
  split at hc
  · cases hc
    cases h1.int
    cases h2.int
    obtain ⟨t, rfl⟩ := rx
    obtain ⟨t', rfl⟩ := ry
    exact le_int ⟨.bl _, H, I, rfl, k _ H (fun _ _ e => e) (new_sh (.bl _))⟩
  · cases hc
    cases h1.int
    cases h2.bool
    obtain ⟨t, rfl⟩ := rx
    cases ry
    exact le_int_bool ⟨.bl _, H, I, rfl, k _ H (fun _ _ e => e) (new_sh (.bl _))⟩
  · cases hc
theorem ov_gt : OpV X (compareOp .Gt) (.cmp .gt) := ov_cmpI (fun _ _ => rfl) fun _ _ _ _ _ _ _ q => gt_int q
theorem ov_ge : OpV X (compareOp .GtE) (.cmp .ge) := ov_cmpI (fun _ _ => rfl) fun _ _ _ _ _ _ _ q => ge_int q

theorem ov_add : OpV X (binaryOp .Add) (.bin .add) := by
  intro pins s σ H x y v u Q I rx ry ⟨ds, own, d, ra, e, k⟩
  obtain ⟨a, b, rfl, h1, h2⟩ := ra2 ra
  replace e : bAdd a b = some (own, d) := e
  unfold bAdd at e
  split at e
  · cases e
    cases h1.int
    cases h2.int
    exact op_add pins s σ H _ _ v u Q I rx ry ⟨_, _, rfl, rfl, k _ H (fun _ _ e => e) (new_sh (.int _))⟩
  · cases e
    cases h1.bool
    cases h2.int
    cases rx
    obtain ⟨t', rfl⟩ := ry
    exact IntBool.add_bool_int ⟨.int _, H, I.tok _, ⟨_, rfl⟩, k _ H (fun _ _ e => e) (new_sh (.int _))⟩
  · rename_i xs ys
    split at e
    · rename_i hz
      cases e
      obtain ⟨p, vs, rfl, q1, r1⟩ := h1.tup
      obtain ⟨p2, ws, rfl, q2, r2⟩ := h2.tup
      have hz' : vs.length + ws.length ≤ sizeLine := by rw [r1.length, r2.length]; exact of_decide_eq_true hz
      refine op_catA pins s σ H _ _ v u Q I rx ry ⟨p, p2, vs, ws, rfl, rfl, q1, q2, hz', fun e0 => ?_, fun _ e0 => ?_, fun _ _ p3 hp => ?_⟩
      · subst e0
        cases r1
        exact k _ H (fun _ _ e => e) (new_sh (by simpa using (Rep.tup q2 r2)))
      · subst e0
        cases r2
        exact k _ H (fun _ _ e => e) (new_sh (by simpa using (Rep.tup q1 r1)))
      · exact k _ _ (kept_upd hp) (new_tup hp (r1.append r2))
    · cases e
  · rename_i xs ys
    split at e
    · rename_i hz
      cases e
      obtain ⟨p, vs, rfl, q1, r1⟩ := h1.lst
      obtain ⟨p2, ws, rfl, q2, r2⟩ := h2.lst
      have hz' : vs.length + ws.length ≤ sizeLine := by rw [r1.length, r2.length]; exact of_decide_eq_true hz
      cases rx
      cases ry
      obtain ⟨its, n, rv, ho, z, l1⟩ := lstR I q1
      obtain ⟨its2, n2, rv2, ho2, z2, l2⟩ := lstR I q2
      refine PySem.P.add_list ho ho2 ?_ (by rw [List.size_toArray, List.size_toArray]; omega)
      have ea : its.toArray ++ its2.toArray = (its ++ its2).toArray := by simp
      rw [ea]
      exact ⟨.ref _, _, I.lnew (t' := s.toks) (rv.append rv2) (by rw [List.length_append]; omega), rfl, k _ _ (kept_upd I.fresh) (new_lst I.fresh (r1.append r2))⟩
    · cases e
  · cases e
theorem tuple_mul1 (l : Addr) (items : Array Value) (n : Nat) (dd : Option Addr) (sl : Array (Option Value)) (x : Int) (u : Tok) (c0 : (decide (x < -(2 ^ 63)) || decide (x ≥ 2 ^ 63)) = false) (c1 : (items.isEmpty || x == 1) = true) :
    Meets (Builtin.«tuple.__mul__» ⟨[.ref l, .int x u], []⟩) (fun _ R s => s.heap.get? l = some { cls := .type "tuple", dict := dd, data := .seq items n, slots := sl } ∧ R (.ok (.ret (Value.ref l))) s) :=
  .of_wp fun prog w A R s h => by
    obtain ⟨hp, g, d, tk, os⟩ := s
    obtain ⟨hl, h⟩ := h
    have f1 := AutoSeq1.idx_int
    wp_walk using wpAny_loadPart' hl
    repeat (first
      | (refine wpAny_ite_false (decide_eq_false (by rw [c0]; exact Bool.false_ne_true)) ?_; wp_walk using wpAny_loadPart' hl)
      | (refine wpAny_ite_true (decide_eq_true (by rw [c1])) ?_; wp_walk using wpAny_loadPart' hl))
    exact ⟨_, rfl, h⟩
theorem tuple_mul0 (l : Addr) (items : Array Value) (n : Nat) (dd : Option Addr) (sl : Array (Option Value)) (x : Int) (u : Tok) (c0 : (decide (x < -(2 ^ 63)) || decide (x ≥ 2 ^ 63)) = false) (c1 : (items.isEmpty || x == 1) = false) (c2 : (decide (x ≤ 0) || items.isEmpty) = true) :
    Meets (Builtin.«tuple.__mul__» ⟨[.ref l, .int x u], []⟩) (fun _ R s => s.heap.get? l = some { cls := .type "tuple", dict := dd, data := .seq items n, slots := sl } ∧
      R (.ok (.ret (Value.ref s.heap.objs.size))) { s with heap := s.heap.push { cls := Value.type "tuple", data := Data.seq #[] }, toks := s.toks }) :=
  .of_wp fun prog w A R s h => by
    obtain ⟨hp, g, d, tk, os⟩ := s
    obtain ⟨hl, h⟩ := h
    have f1 := AutoSeq1.idx_int
    wp_walk using wpAny_loadPart' hl
    repeat (first
      | (refine wpAny_ite_false (decide_eq_false (by rw [c0]; exact Bool.false_ne_true)) ?_; wp_walk using wpAny_loadPart' hl)
      | (refine wpAny_ite_false (decide_eq_false (by rw [c1]; exact Bool.false_ne_true)) ?_; wp_walk using wpAny_loadPart' hl)
      | (refine wpAny_ite_true (decide_eq_true (by rw [c2])) ?_; wp_walk using wpAny_loadPart' hl))
    exact ⟨_, rfl, h⟩
theorem tup_mul {pins : List (Addr × Obj)} {s : Shared} {σ : L2.St} {H : Hp} {Q : VK} {p : Addr} {vs : List V} {ys : List PyData} {its : List Value} {dd : Option Addr} {sl : Array (Option Value)} {m : Nat} {n : Int} {t : Tok} (I : Inv X pins σ H s)
    (ho : s.heap.get? p = some { cls := .type "tuple", dict := dd, data := .seq its.toArray m, slots := sl }) (r1 : RepAll (kw X) H vs ys) (r : Vals vs its) (hs : vs.length ≤ sizeLine) (hz : vs.length * n.toNat ≤ sizeLine) (hn1 : n < 2 ^ 62) (hn2 : -(2 ^ 62) ≤ n)
    (q1 : SqT (kw X) H p vs) (k : ∀ (x : V) (H' : Hp), (∀ (a : Addr) (ob : HO), H a = some ob → H' a = some ob) → NewR (kw X) H H' false (.tuple (List.replicate n.toNat ys).flatten) x → Q x H') :
    wpAny (model X.prog X.w) X.A (binaryOp .Mult (.ref p) (.int n t)) (EP X pins σ Q) X.xe s := by
  have hle : its.length = vs.length := r.length.symm
  have c0 : (decide (n < -(2 ^ 63)) || decide (n ≥ 2 ^ 63)) = false := by
    rw [decide_eq_false (by omega), decide_eq_false (by omega)] <;> rfl
  by_cases h1 : (its.toArray.isEmpty || n == 1) = true
  · refine wpAny_binaryOp_repeat_ref (T := "tuple") (U := "int") (by decide) ⟨_, ho, rfl⟩ (fun s' => typeIs_int s' n t) noFill_tuple_mul F.fills_int_mul F.slot_int_rmul repeat_tuple F.slot_int_index.lookup
      (call_meets F.slot_int_rmul (typeIs_int s n t) F.entry_int_rmul (F.args_int_rmul_2 _ _) (int_rmul_tuple n t p its.toArray m dd sl)
        ⟨ho, rfl, ⟨_, ho, rfl⟩, call_meets F.slot_tuple_mul ⟨_, ho, rfl⟩ F.entry_tuple_mul (F.args_tuple_mul_2 _ _) (tuple_mul1 p its.toArray m dd sl n t c0 h1) ⟨ho, ?_⟩⟩)
    have e : (List.replicate n.toNat ys).flatten = ys := by
      simp only [Bool.or_eq_true, beq_iff_eq] at h1
      rcases h1 with h1 | h1
      · have : its = [] := by simpa using h1
        subst this
        cases r
        cases r1
        simp
      · subst h1
        simp
    rw [e] at k
    exact ⟨.ref p, H, I, rfl, k _ H (fun _ _ e => e) (new_sh (.tup q1 r1))⟩
  · have h1' : (its.toArray.isEmpty || n == 1) = false := by simpa using h1
    have hi : its.toArray.isEmpty = false := by
      rw [Bool.or_eq_false_iff] at h1'
      exact h1'.1
    by_cases h2 : n ≤ 0
    · refine wpAny_binaryOp_repeat_ref (T := "tuple") (U := "int") (by decide) ⟨_, ho, rfl⟩ (fun s' => typeIs_int s' n t) noFill_tuple_mul F.fills_int_mul F.slot_int_rmul repeat_tuple F.slot_int_index.lookup
        (call_meets F.slot_int_rmul (typeIs_int s n t) F.entry_int_rmul (F.args_int_rmul_2 _ _) (int_rmul_tuple n t p its.toArray m dd sl)
          ⟨ho, rfl, ⟨_, ho, rfl⟩, call_meets F.slot_tuple_mul ⟨_, ho, rfl⟩ F.entry_tuple_mul (F.args_tuple_mul_2 _ _) (tuple_mul0 p its.toArray m dd sl n t c0 h1' (by rw [decide_eq_true h2]; rfl)) ⟨ho, ?_⟩⟩)
      have e : n.toNat = 0 := by omega
      rw [e] at k
      refine ⟨.ref s.heap.objs.size, _, I.laid (t' := s.toks) (o := .tup []) (fun b ob q => Heap.get?_push_of_some _ q) (Nat.le_refl _) ?_, rfl, k _ _ (kept_upd I.fresh) (new_tup I.fresh .nil)⟩
      exact ⟨Nat.zero_le _, [], .nil, IsTup.new _ _⟩
    · have hsz0 : its.toArray.size = vs.length := by rw [List.size_toArray, hle]
      have hlim : its.toArray.size * n.toNat ≤ sizeLine := by rw [hsz0]; exact hz
      have hm : ((its.toArray.size : Nat) : Int) * n = ((its.toArray.size * n.toNat : Nat) : Int) := by
        rw [Int.natCast_mul]
        congr 1
        omega
      have hsl := sizeLine_eq
      have flen : (List.replicate n.toNat its).flatten.length ≤ sizeLine := by
        rw [PyProof.Rows.lm_len_rep_flat, hle, Nat.mul_comm]
        exact hz
      have c2 : (decide (n ≤ 0) || its.toArray.isEmpty) = false := by
        rw [hi, Bool.or_false]
        exact decide_eq_false (by omega)
      have c4 : Builtin.Tuple.tupleTooMany (((its.toArray.size : Nat) : Int) * n) = false := by
        unfold Builtin.Tuple.tupleTooMany
        exact decide_eq_false (by omega)
      refine wpAny_binaryOp_repeat_ref (T := "tuple") (U := "int") (by decide) ⟨_, ho, rfl⟩ (fun s' => typeIs_int s' n t) noFill_tuple_mul F.fills_int_mul F.slot_int_rmul repeat_tuple F.slot_int_index.lookup
        (call_meets F.slot_int_rmul (typeIs_int s n t) F.entry_int_rmul (F.args_int_rmul_2 _ _) (int_rmul_tuple n t p its.toArray m dd sl)
          ⟨ho, rfl, ⟨_, ho, rfl⟩, call_meets F.slot_tuple_mul ⟨_, ho, rfl⟩ F.entry_tuple_mul (F.args_tuple_mul_2 _ _) (tuple_mulW p its.toArray m dd sl n t c0 h1' c2 (by omega) c4 (by rw [size_rep, List.size_toArray]; exact flen)) ⟨ho, ?_⟩⟩)
      rw [size_rep]
      refine ⟨.ref s.heap.objs.size, _, I.laid (t' := s.toks) (o := .tup (List.replicate n.toNat vs).flatten) (fun b ob q => Heap.get?_push_of_some _ q) (Nat.le_refl _) ?_, rfl, k _ _ (kept_upd I.fresh) (new_tup I.fresh (r1.flatten n.toNat))⟩
      exact ⟨by rw [PyProof.Rows.lm_len_rep_flat, Nat.mul_comm]; exact hz, _, r.rep n.toNat, IsTup.new _ _⟩
theorem ov_mul : OpV X (binaryOp .Mult) (.bin .mul) := by
  intro pins s σ H x y v u Q I rx ry ⟨ds, own, d, ra, e, k⟩
  obtain ⟨a, b, rfl, h1, h2⟩ := ra2 ra
  replace e : bMul a b = some (own, d) := e
  unfold bMul at e
  split at e
  · split at e
    · rename_i hc
      cases e
      cases h1.int
      cases h2.int
      obtain ⟨t, rfl⟩ := rx
      obtain ⟨t', rfl⟩ := ry
      exact mul_int ⟨.int _, H, I.tok _, ⟨_, rfl⟩, k _ H (fun _ _ e => e) (new_sh (.int _))⟩ (mulOk_ok hc)
    · cases e
  · cases e
    cases h1.bool
    cases h2.int
    cases rx
    obtain ⟨t', rfl⟩ := ry
    exact IntBool.mul_bool_int ⟨.int _, H, I.tok _, ⟨_, rfl⟩, k _ H (fun _ _ e => e) (new_sh (.int _))⟩
  · rename_i ys n
    split at e
    · rename_i hz
      cases e
      simp only [Bool.and_eq_true, decide_eq_true_eq, szOk] at hz
      obtain ⟨⟨hz, hn1⟩, hn2⟩ := hz
      obtain ⟨p, vs, rfl, q1, r1⟩ := h1.tup
      cases h2.int
      cases rx
      obtain ⟨t, rfl⟩ := ry
      obtain ⟨its, r, ⟨⟨cls, dd, data, sl⟩, ho, hc, m, hd⟩, hs⟩ := I.tuple q1
      simp only at hc hd
      subst hc hd
      exact tup_mul I ho r1 r hs (by rw [← r1.length] at hz; exact hz) hn1 hn2 q1 k
    · cases e
  · rename_i ys n
    split at e
    · rename_i hz
      cases e
      simp only [Bool.and_eq_true, decide_eq_true_eq, szOk] at hz
      obtain ⟨⟨hz, hn1⟩, hn2⟩ := hz
      obtain ⟨p, vs, rfl, q1, r1⟩ := h1.lst
      cases h2.int
      cases rx
      obtain ⟨t, rfl⟩ := ry
      obtain ⟨its, m, rv, ho, z, l1⟩ := lstR I q1
      have hl : its.length = ys.length := by rw [l1, r1.length]
      have hlen : its.toArray.size * n.toNat ≤ sizeLine := by rw [List.size_toArray, hl]; exact hz
      have hcap : ¬ its.toArray.size * n.toNat > (2 ^ 63 - 1) / 8 := by
        have : (sizeLine : Nat) ≤ (2 ^ 63 - 1) / 8 := by decide
        omega
      have hfit : ¬ (!Builtin.List.listFitsIndex n) = true := by
        rw [fitsIndex_both (by omega) (by omega)]
        exact Bool.false_ne_true
      have hlong : ¬ Builtin.List.listTooLong (its.toArray.size * n.toNat) = true := by
        rw [notLongL hlen]
        exact Bool.false_ne_true
      have hnew : List.foldl (fun x1 x2 => x1 ++ x2) #[] (List.replicate (if its.toArray.isEmpty = true then 0 else n.toNat) its.toArray) = (List.replicate n.toNat its).flatten.toArray := by
        rw [size_rep]
        cases its with
        | nil => simp
        | cons a r' => rw [if_neg (by simp)]
      refine wpAny_binaryOp_repeat_ref (T := "list") (U := "int") (by decide) ⟨_, ho, rfl⟩ (fun s' => typeIs_int s' n t) noFill_list_mul F.fills_int_mul F.slot_int_rmul repeat_list F.slot_int_index.lookup ?_
      refine call_meets F.slot_int_rmul (typeIs_int s n t) F.entry_int_rmul (F.args_int_rmul_2 _ _) (int___rmul___int_list n t p its.toArray m) ⟨ho, rfl, ⟨_, ho, rfl⟩, ?_⟩
      refine call_meets F.slot_list_mul ⟨_, ho, rfl⟩ F.entry_list_mul (F.args_list_mul_2 _ _) (AutoListH.list___mul___list_int_3 p its.toArray m n t hfit hcap hlong) ⟨ho, ?_⟩
      rw [hnew]
      exact ⟨.ref _, _, I.lnew (t' := s.toks) (rv.rep n.toNat) (by rw [PyProof.Rows.lm_len_rep_flat, Nat.mul_comm, ← l1, hl]; exact hz), rfl, k _ _ (kept_upd I.fresh) (new_lst I.fresh (r1.flatten n.toNat))⟩
    · cases e
  · cases e
theorem uv_neg : UnV X (unaryOp .USub) .neg := by
  intro pins s σ H x v Q I rx ⟨ds, own, d, ra, e, k⟩
  obtain ⟨a, rfl, h1⟩ := ra1 ra
  cases a <;> try (cases e; done)
  cases e
  cases h1.int
  exact un_neg pins s σ H _ v Q I rx ⟨_, rfl, k _ H (fun _ _ e => e) (new_sh (.int _))⟩
end
end MP

/-! MP: comparisons, calls of built-ins by values. -/
namespace MP
open PySem PySem.Spec PyProof.Rows L2 PySem.Calls
section
variable {X : Cx}
theorem rds {pins : List (Addr × Obj)} {s : Shared} {σ : L2.St} {H : Hp} {x : V} {d : PyData} {u : Value} (S : Sys X) (I : Inv X pins σ H s) (h : Readable (kw X) H x d) (r : RelV x u) : ∃ as, Reads s.heap u d as ∧ sysModules ∉ as :=
  h.reads I.hok I.kIn (ns_of S I) r
theorem okD_of {d : PyData} (h : okD d = true) : d.plain = true ∧ d.depth ≤ 100 := by
  unfold okD at h
  simpa using h
theorem okDs_of {ds : List PyData} (h : okDs ds = true) : PyData.plainAll ds = true ∧ PyData.depthAll ds ≤ 100 := by
  unfold okDs at h
  simpa using h
/-- == by data -/
theorem eqD_eqv {a b : PyData} {c : Bool} (h : eqD a b = some c) : (a.plain = true ∧ b.plain = true ∧ min a.depth b.depth ≤ 100) ∧ c = PyData.eqv a b := by
  unfold eqD at h
  split at h
  · cases h
    refine ⟨⟨rfl, rfl, by simp [PyData.depth]⟩, ?_⟩
    simp only [PyData.eqv]
    rw [Bool.eq_iff_iff]
    simp
  · cases h
    refine ⟨⟨rfl, rfl, by simp [PyData.depth]⟩, ?_⟩
    simp only [PyData.eqv]
    rw [Bool.eq_iff_iff]
    simp
  · split at h
    · rename_i hh
      cases h
      rw [Bool.and_eq_true] at hh
      obtain ⟨h1, h2⟩ := okD_of hh.1
      obtain ⟨h3, h4⟩ := okD_of hh.2
      exact ⟨⟨h1, h3, Nat.le_trans (Nat.min_le_left _ _) h2⟩, rfl⟩
    · cases h
theorem ov_eq (S : Sys X) (hu : X.A.units + 200 < cLine) : OpV X (compareOp .Eq) (.cmp .eq) := by
  intro pins s σ H x y v u Q I rx ry ⟨ds, own, d, ra, e, k⟩
  obtain ⟨a, b, rfl, h1, h2⟩ := ra2 ra
  obtain ⟨as, r1, _⟩ := rds S I h1 rx
  obtain ⟨bs, r2, _⟩ := rds S I h2 ry
  obtain ⟨c, hc, e2⟩ := Option.map_eq_some_iff.mp e
  cases e2
  obtain ⟨⟨p1, p2, p3⟩, rfl⟩ := eqD_eqv hc
  exact PySem.SeqAt.eq_plain r1 r2 p1 p2 (by omega) ⟨.bl _, H, I, rfl, k _ H (fun _ _ e => e) (new_sh (.bl _))⟩
theorem ov_ne (S : Sys X) (hu : X.A.units + 200 < cLine) : OpV X (compareOp .NotEq) (.cmp .ne) := by
  intro pins s σ H x y v u Q I rx ry ⟨ds, own, d, ra, e, k⟩
  obtain ⟨a, b, rfl, h1, h2⟩ := ra2 ra
  obtain ⟨as, r1, _⟩ := rds S I h1 rx
  obtain ⟨bs, r2, _⟩ := rds S I h2 ry
  obtain ⟨c, hc, e2⟩ := Option.map_eq_some_iff.mp e
  cases e2
  obtain ⟨c', hc', rfl⟩ := Option.map_eq_some_iff.mp hc
  obtain ⟨⟨p1, p2, p3⟩, rfl⟩ := eqD_eqv hc'
  exact PySem.SeqAt.ne_plain r1 r2 p1 p2 (by omega) ⟨.bl _, H, I, rfl, k _ H (fun _ _ e => e) (new_sh (.bl _))⟩
theorem ov_lt (S : Sys X) (hu : X.A.units + 200 < cLine) : OpV X (compareOp .Lt) (.cmp .lt) := by
  intro pins s σ H x y v u Q I rx ry ⟨ds, own, d, ra, e, k⟩
  obtain ⟨a, b, rfl, h1, h2⟩ := ra2 ra
  obtain ⟨c, hc, e2⟩ := Option.map_eq_some_iff.mp e
  cases e2
  replace hc : cLt a b = some c := hc
  unfold cLt at hc
  split at hc
  · cases hc
    cases h1.int
    cases h2.int
    exact op_lt pins s σ H _ _ v u Q I rx ry ⟨_, _, rfl, rfl, k _ H (fun _ _ e => e) (new_sh (.bl _))⟩
  · cases hc
    cases h1.bool
    cases h2.int
    cases rx
    obtain ⟨t', rfl⟩ := ry
    exact lt_bool_int ⟨.bl _, H, I, rfl, k _ H (fun _ _ e => e) (new_sh (.bl _))⟩
  · rename_i xs ys
    split at hc
    · rename_i hh
      cases hc
      simp only [Bool.and_eq_true] at hh
      obtain ⟨ha, hx, hy⟩ := hh
      obtain ⟨as, r1, _⟩ := rds S I h1 rx
      obtain ⟨bs, r2, _⟩ := rds S I h2 ry
      have hd := (okDs_of hx).2
      exact PySem.W.rcLt_alike (.tuple xs) (.tuple ys) X.A s v u as bs r1 r2 (by simpa [PySem.W.alike] using ha) (by intro z; cases z) (by simp only [PyData.depth]; omega) _ _ _ _
        ⟨.bl _, H, I, rfl, k _ H (fun _ _ e => e) (new_sh (.bl _))⟩
    · cases hc
  · cases hc
theorem isIn_of {a b : PyData} {c : Bool} (h : isIn a b = some c) : ∃ xs, (b = .list xs ∨ b = .tuple xs) ∧ a.plain = true ∧ PyData.plainAll xs = true ∧ min (PyData.depthAll xs) a.depth ≤ 100 ∧ c = xs.any fun y => PyData.eqv y a := by
  unfold isIn at h
  split at h
  · rename_i xs
    split at h
    · rename_i hh
      cases h
      rw [Bool.and_eq_true] at hh
      obtain ⟨h1, h2⟩ := okD_of hh.1
      obtain ⟨h3, h4⟩ := okDs_of hh.2
      exact ⟨xs, .inl rfl, h1, h3, Nat.le_trans (Nat.min_le_left _ _) h4, rfl⟩
    · cases h
  · rename_i xs
    split at h
    · rename_i hh
      cases h
      rw [Bool.and_eq_true] at hh
      obtain ⟨h1, h2⟩ := okD_of hh.1
      obtain ⟨h3, h4⟩ := okDs_of hh.2
      exact ⟨xs, .inr rfl, h1, h3, Nat.le_trans (Nat.min_le_left _ _) h4, rfl⟩
    · cases h
  · cases h
theorem ov_in (S : Sys X) (hu : X.A.units + 200 < cLine) : OpV X (compareOp .In) (.cmp .isin) := by
  intro pins s σ H x y v u Q I rx ry ⟨ds, own, d, ra, e, k⟩
  obtain ⟨a, b, rfl, h1, h2⟩ := ra2 ra
  obtain ⟨as, r1, _⟩ := rds S I h1 rx
  obtain ⟨bs, r2, _⟩ := rds S I h2 ry
  obtain ⟨c, hc, e2⟩ := Option.map_eq_some_iff.mp e
  cases e2
  obtain ⟨xs, hb, p1, p2, p3, rfl⟩ := isIn_of hc
  rcases hb with rfl | rfl
  · exact PySem.SeqAt.in_list_data r2 r1 p2 p1 (by omega) ⟨.bl _, H, I, rfl, k _ H (fun _ _ e => e) (new_sh (.bl _))⟩
  · exact PySem.SeqAt.in_tuple_data r2 r1 p2 p1 (by omega) ⟨.bl _, H, I, rfl, k _ H (fun _ _ e => e) (new_sh (.bl _))⟩
theorem ov_nin (S : Sys X) (hu : X.A.units + 200 < cLine) : OpV X (compareOp .NotIn) (.cmp .nin) := by
  intro pins s σ H x y v u Q I rx ry ⟨ds, own, d, ra, e, k⟩
  obtain ⟨a, b, rfl, h1, h2⟩ := ra2 ra
  obtain ⟨as, r1, _⟩ := rds S I h1 rx
  obtain ⟨bs, r2, _⟩ := rds S I h2 ry
  obtain ⟨c, hc, e2⟩ := Option.map_eq_some_iff.mp e
  cases e2
  obtain ⟨c', hc', rfl⟩ := Option.map_eq_some_iff.mp hc
  obtain ⟨xs, hb, p1, p2, p3, rfl⟩ := isIn_of hc'
  rcases hb with rfl | rfl
  · exact PySem.SeqAt.notIn_list_data r2 r1 p2 p1 (by omega) ⟨.bl _, H, I, rfl, k _ H (fun _ _ e => e) (new_sh (.bl _))⟩
  · exact PySem.SeqAt.notIn_tuple_data r2 r1 p2 p1 (by omega) ⟨.bl _, H, I, rfl, k _ H (fun _ _ e => e) (new_sh (.bl _))⟩

/-! ### calls -/
theorem one_arg {K : MKx} {H : Hp} {xs : List V} {ds : List PyData} {o : Op} {r : Bool × PyData} (ra : ReadAll K H xs ds) (e : opS o ds = some r) (h0 : opS o [] = none) (h2 : ∀ a b l, opS o (a :: b :: l) = none) : ∃ x d, xs = [x] ∧ ds = [d] ∧ Readable K H x d := by
  cases ra with
  | nil =>
    rw [h0] at e
    cases e
  | cons h1 rr =>
    cases rr with
    | nil => exact ⟨_, _, rfl, rfl, h1⟩
    | cons a b =>
      rw [h2] at e
      cases e
theorem two_args {K : MKx} {H : Hp} {xs : List V} {ds : List PyData} {o : Op} {r : Bool × PyData} (ra : ReadAll K H xs ds) (e : opS o ds = some r) (h0 : opS o [] = none) (h1 : ∀ a, opS o [a] = none) (h3 : ∀ a b c l, opS o (a :: b :: c :: l) = none) :
    ∃ x y d f, xs = [x, y] ∧ ds = [d, f] ∧ Readable K H x d ∧ Readable K H y f := by
  cases ra with
  | nil =>
    rw [h0] at e
    cases e
  | cons ha rr =>
    cases rr with
    | nil =>
      rw [h1] at e
      cases e
    | cons hb rr =>
      cases rr with
      | nil => exact ⟨_, _, _, _, rfl, rfl, ha, hb⟩
      | cons a b =>
        rw [h3] at e
        cases e
theorem cv_len : CallV X (.builtin "len") .len := by
  intro pins s σ H xs us Q I r ⟨ds, own, d, ra, e, k⟩
  obtain ⟨x, d1, rfl, rfl, h1⟩ := one_arg ra e rfl (by intro a b l; cases a <;> rfl)
  refine call_len pins s σ H _ us Q I r ?_
  cases d1 <;> try (cases e; done)
  · cases e
    obtain ⟨p, vs, rfl, q, rr⟩ := h1.lst
    exact ⟨_, vs.length, rfl, .inl ⟨vs, .inl q, rfl⟩, k _ H (fun _ _ e => e) (new_sh (by rw [rr.length]; exact .int _))⟩
  · cases e
    obtain ⟨p, vs, rfl, q, rr⟩ := h1.tup
    exact ⟨_, vs.length, rfl, .inr ⟨vs, q, rfl⟩, k _ H (fun _ _ e => e) (new_sh (by rw [rr.length]; exact .int _))⟩
theorem cv_tuple : CallV X (.type "tuple") .tuple := by
  intro pins s σ H xs us Q I r ⟨ds, own, d, ra, e, k⟩
  obtain ⟨x, d1, rfl, rfl, h1⟩ := one_arg ra e rfl (by intro a b l; cases a <;> rfl)
  refine call_tuple_of pins s σ H _ us Q I r ?_
  obtain ⟨ys, hy, e2⟩ := Option.map_eq_some_iff.mp (show (asSeq d1).map (fun xs => (false, PyData.tuple xs)) = some (own, d) from e)
  cases e2
  rcases h1.seq hy with ⟨p, vs, rfl, rfl, q, rr⟩ | ⟨p, vs, rfl, rfl, q, rr⟩
  · exact ⟨p, vs, rfl, .inl ⟨.inl q, fun l hl => k _ _ (kept_upd hl) (new_tup hl rr)⟩⟩
  · exact ⟨p, vs, rfl, .inr ⟨q, k _ H (fun _ _ e => e) (new_sh (.tup q rr))⟩⟩
theorem cv_list : CallV X (.type "list") .list := by
  intro pins s σ H xs us Q I r ⟨ds, own, d, ra, e, k⟩
  obtain ⟨x, d1, rfl, rfl, h1⟩ := one_arg ra e rfl (by intro a b l; cases a <;> rfl)
  refine call_list_of pins s σ H _ us Q I r ?_
  obtain ⟨ys, hy, e2⟩ := Option.map_eq_some_iff.mp (show (asSeq d1).map (fun xs => (true, PyData.list xs)) = some (own, d) from e)
  cases e2
  rcases h1.seq hy with ⟨p, vs, rfl, rfl, q, rr⟩ | ⟨p, vs, rfl, rfl, q, rr⟩
  · exact ⟨p, vs, rfl, .inl (.inl q), fun l hl => k _ _ (kept_upd hl) (new_lst hl rr)⟩
  · exact ⟨p, vs, rfl, .inr q, fun l hl => k _ _ (kept_upd hl) (new_lst hl rr)⟩
theorem cv_int : CallV X (.type "int") .int := by
  intro pins s σ H xs us Q I r ⟨ds, own, d, ra, e, k⟩
  obtain ⟨x, d1, rfl, rfl, h1⟩ := one_arg ra e rfl (by intro a b l; cases a <;> rfl)
  refine call_int1 pins s σ H _ us Q I r ?_
  cases d1 <;> try (cases e; done)
  · cases e
    cases h1.bool
    exact .inr ⟨_, rfl, k _ H (fun _ _ e => e) (new_sh (.int _))⟩
  · cases e
    cases h1.int
    exact .inl ⟨_, rfl, k _ H (fun _ _ e => e) (new_sh (.int _))⟩
theorem sumI_map : ∀ {ds : List PyData} {i : Int}, sumI ds = some i → ∃ ns : List Int, ds = ns.map .int ∧ i = ns.sum
  | [], _, e => by
    cases e
    exact ⟨[], rfl, rfl⟩
  | .int j :: r, i, e => by
    obtain ⟨m, h1, h2⟩ := Option.map_eq_some_iff.mp (show (sumI r).map (j + ·) = some i from e)
    obtain ⟨ns, rfl, rfl⟩ := sumI_map h1
    exact ⟨j :: ns, rfl, by rw [← h2, List.sum_cons]⟩
  | .none :: _, _, e => by cases e
  | .bool _ :: _, _, e => by cases e
  | .str _ :: _, _, e => by cases e
  | .list _ :: _, _, e => by cases e
  | .tuple _ :: _, _, e => by cases e
  | .dict _ :: _, _, e => by cases e
theorem RepAll.ints {K : MKx} {H : Hp} : ∀ {vs : List V} {ns : List Int}, RepAll K H vs (ns.map .int) → vs = ns.map V.int
  | _, [], h => by cases h; rfl
  | _, n :: ns, h => by
    cases h with
    | cons a b =>
      cases a
      rw [RepAll.ints b]
      rfl
theorem sum_rawT {prog : Program} {w : World} {A : Around} {E : Value → Shared → Prop} {s : Shared} {l : Addr} {its : List Value} {ns : List Int} {Q : Value → Shared → Prop} (hh : A.handled = none) (hl : s.heap.IsTuple l its.toArray) (hi : IntsAre its ns)
    (h : ∀ h' tk t', (∀ b o, s.heap.get? b = some o → h'.get? b = some o) → Q (.int ns.sum t') { s with heap := h', toks := tk }) : wpAny (model prog w) A (call (.builtin "sum") [.ref l]) Q E s := by
  obtain ⟨xs, e⟩ := hi.allInts.items
  have hn : numsOf (intItems xs).toList = ns := by rw [← e]; exact hi.numsOf
  rw [nums_intItems] at hn
  rw [e] at hl
  refine PySem.W.ktm_sumG hh hl fun h' tk t' hk => ?_
  have := h h' tk t' hk
  rw [preSum_eq, List.take_of_length_le (by simp), hn]
  exact this
theorem cv_sum (hc : X.calm = true) : CallV X (.builtin "sum") .sum := by
  intro pins s σ H xs us Q I r ⟨ds, own, d, ra, e, k⟩
  obtain ⟨x, d1, rfl, rfl, h1⟩ := one_arg ra e rfl (by intro a b l; cases a <;> rfl)
  cases d1 <;> try (cases e; done)
  · obtain ⟨i, hi, e3⟩ := Option.map_eq_some_iff.mp e
    cases e3
    obtain ⟨ns, rfl, rfl⟩ := sumI_map hi
    obtain ⟨p, vs, rfl, q, rr⟩ := h1.lst
    cases rr.ints
    exact cr_sum hc pins s σ H _ us Q I r ⟨p, ns, rfl, .inl q, k _ H (fun _ _ e => e) (new_sh (.int _))⟩
  · obtain ⟨i, hi, e3⟩ := Option.map_eq_some_iff.mp e
    cases e3
    obtain ⟨ns, rfl, rfl⟩ := sumI_map hi
    rcases h1.seq (show asSeq (.tuple (ns.map .int)) = some _ from rfl) with ⟨p, vs, e4, e5, q, rr⟩ | ⟨p, vs, e4, e5, q, rr⟩
    · cases e4
    · subst e5
      cases rr.ints
      obtain ⟨its, rv, hl, _⟩ := I.tuple q
      rw [Vals.ref1 r]
      exact sum_rawT (I.ok.hd hc) hl rv.ints fun h' tk t' hk => ⟨.int _, H, I.kept hk, ⟨_, rfl⟩, k _ H (fun _ _ e => e) (new_sh (.int _))⟩
theorem cv_max2 (hc : X.calm = true) : CallV X (.builtin "max") .max2 := by
  intro pins s σ H xs us Q I r ⟨ds, own, d, ra, e, k⟩
  obtain ⟨x, y, d1, d2, rfl, rfl, h1, h2⟩ := two_args ra e rfl (by intro a; cases a <;> rfl) (by intro a b c l; cases a <;> cases b <;> rfl)
  cases d1 <;> try (cases e; done)
  cases d2 <;> try (cases e; done)
  cases e
  cases h1.int
  cases h2.int
  exact call_max2 hc pins s σ H _ us Q I r ⟨_, _, rfl, k _ H (fun _ _ e => e) (new_sh (.int _))⟩
theorem cv_min2 (hc : X.calm = true) : CallV X (.builtin "min") .min2 := by
  intro pins s σ H xs us Q I r ⟨ds, own, d, ra, e, k⟩
  obtain ⟨x, y, d1, d2, rfl, rfl, h1, h2⟩ := two_args ra e rfl (by intro a; cases a <;> rfl) (by intro a b c l; cases a <;> cases b <;> rfl)
  cases d1 <;> try (cases e; done)
  cases d2 <;> try (cases e; done)
  cases e
  cases h1.int
  cases h2.int
  exact call_min2 hc pins s σ H _ us Q I r ⟨_, _, rfl, k _ H (fun _ _ e => e) (new_sh (.int _))⟩
/-! ### data of any depth -/
theorem boolish_of : ∀ {ds : List PyData}, boolish ds = true → PyData.plainAll ds = true ∧ ∀ d ∈ ds, d.fits63
  | [], _ => ⟨rfl, fun _ h => absurd h (by simp)⟩
  | d :: ds, h => by
    have h' : isBl d = true ∧ boolish ds = true := by
      unfold boolish at h
      rw [List.all_cons, Bool.and_eq_true] at h
      exact h
    obtain ⟨h1, h2⟩ := boolish_of h'.2
    cases d <;> try (cases h'.1; done)
    all_goals
      refine ⟨by simp only [PyData.plainAll, PyData.plain, h1, Bool.and_self], fun z hz => ?_⟩
      rcases List.mem_cons.mp hz with rfl | hz
      · trivial
      · exact h2 z hz
theorem cv_all (hc : X.calm = true) : CallV X (.builtin "all") .all := by
  intro pins s σ H xs us Q I r ⟨ds, own, d, ra, e, k⟩
  obtain ⟨x, d1, rfl, rfl, h1⟩ := one_arg ra e rfl (by intro a b l; cases a <;> rfl)
  cases d1 <;> try (cases e; done)
  rename_i l
  replace e : (if boolish l then shB (l.all PyData.truthy) else none) = some (own, d) := e
  split at e
  · rename_i ho
    cases e
    obtain ⟨p, vs, rfl, q, rr⟩ := h1.lst
    obtain ⟨its, n, rv, hg, z, l1⟩ := lstR I q
    obtain ⟨as, hr, _⟩ := rr.reads I.hok I.kIn rv
    rw [Vals.ref1 r]
    exact PySem.W.all_list_data (I.ok.hd hc) ⟨_, hg, rfl, n, rfl⟩ (by simpa using hr) (boolish_of ho).1 (boolish_of ho).2 fun h' tk hk => ⟨.bl _, H, I.kept hk, rfl, k _ H (fun _ _ e => e) (new_sh (.bl _))⟩
  · cases e
theorem cv_any (hc : X.calm = true) : CallV X (.builtin "any") .any := by
  intro pins s σ H xs us Q I r ⟨ds, own, d, ra, e, k⟩
  obtain ⟨x, d1, rfl, rfl, h1⟩ := one_arg ra e rfl (by intro a b l; cases a <;> rfl)
  cases d1 <;> try (cases e; done)
  rename_i l
  replace e : (if boolish l then shB (l.any PyData.truthy) else none) = some (own, d) := e
  split at e
  · rename_i ho
    cases e
    obtain ⟨p, vs, rfl, q, rr⟩ := h1.lst
    obtain ⟨its, n, rv, hg, z, l1⟩ := lstR I q
    obtain ⟨as, hr, _⟩ := rr.reads I.hok I.kIn rv
    rw [Vals.ref1 r]
    exact PySem.W.any_list_data (I.ok.hd hc) ⟨_, hg, rfl, n, rfl⟩ (by simpa using hr) (boolish_of ho).1 (boolish_of ho).2 fun h' tk hk => ⟨.bl _, H, I.kept hk, rfl, k _ H (fun _ _ e => e) (new_sh (.bl _))⟩
  · cases e
/-- the items at a place -/
theorem atI_place {vs : List Value} {i : Nat} {v : Value} {xs : List V} {ds : List PyData} {K : MKx} {H : Hp} (rv : Vals xs vs) (rr : RepAll K H xs ds) (e : vs[i]? = some v) : ∃ x d, xs[i]? = some x ∧ ds[i]? = some d ∧ RelV x v ∧ Rep K H x d := by
  have hi : i < vs.length := (List.getElem?_eq_some_iff.mp e).1
  have hx : i < xs.length := by rw [rv.length]; exact hi
  obtain ⟨u, h1, h2⟩ := rv.get (List.getElem?_eq_getElem hx)
  rw [e] at h1
  cases h1
  obtain ⟨d, h3, h4⟩ := rr.get' (List.getElem?_eq_getElem hx)
  exact ⟨_, d, List.getElem?_eq_getElem hx, h3, h2, h4⟩
theorem plainAll_mem : ∀ {ds : List PyData} {d : PyData}, PyData.plainAll ds = true → d ∈ ds → d.plain = true
  | x :: xs, d, h, hm => by
    simp only [PyData.plainAll, Bool.and_eq_true] at h
    rcases List.mem_cons.mp hm with rfl | hm
    · exact h.1
    · exact plainAll_mem h.2 hm
theorem cmpOk_of {ds : List PyData} (h : cmpOk ds = true) : PySem.W.AlikeAll ds ∧ PyData.plainAll ds = true ∧ PyData.depthAll ds ≤ 100 := by
  unfold cmpOk alikeD at h
  simp only [Bool.and_eq_true, List.all_eq_true] at h
  obtain ⟨⟨h1, h2⟩, h3⟩ := h
  obtain ⟨h4, h5⟩ := okDs_of h2
  refine ⟨⟨h1, fun x hx e => ?_⟩, h4, h5⟩
  have := h3 x hx
  rw [e] at this
  cases this
theorem cv_min1 (hc : X.calm = true) (S : Sys X) (hu : X.A.units + 200 < cLine) : CallV X (.builtin "min") .min1 := by
  intro pins s σ H xs us Q I r ⟨ds, own, d, ra, e, k⟩
  obtain ⟨x, d1, rfl, rfl, h1⟩ := one_arg ra e rfl (by intro a b l; cases a <;> rfl)
  obtain ⟨ys, hy, e2⟩ := Option.bind_eq_some_iff.mp (show (asSeq d1).bind (fun xs => if cmpOk xs then (bests PySem.W.dataLt xs).map fun x => (false, x) else none) = some (own, d) from e)
  split at e2
  · rename_i ho
    obtain ⟨z, hz, e3⟩ := Option.map_eq_some_iff.mp e2
    obtain ⟨rfl, rfl⟩ : own = false ∧ d = z := by cases e3; exact ⟨rfl, rfl⟩
    obtain ⟨o1, o2, o3⟩ := cmpOk_of ho
    cases ys with
    | nil => cases hz
    | cons y yr =>
      have hz' : PySem.W.minD y yr = d := Option.some.inj hz
      have fin : ∀ {vs : List V} {its : List Value} {i : Nat} {v : Value} {h' : Heap} {tk : Nat} {bs : List Addr}, RepAll (kw X) H vs (y :: yr) → Vals vs its → its.toArray[i]? = some v → Reads h' v (PySem.W.minD y yr) bs → (∀ b o, s.heap.get? b = some o → h'.get? b = some o) →
          EP X pins σ Q v { s with heap := h', toks := tk } := by
        intro vs its i v h' tk bs rr rv hv hr hk
        obtain ⟨x, dd, h1, h2, h3, h4⟩ := atI_place rv rr (by simpa using hv)
        have I' : Inv X pins σ H { s with heap := h', toks := tk } := I.kept hk
        obtain ⟨as, hr2, _⟩ := h4.reads I'.hok I'.kIn h3
        have pl : dd.plain = true := plainAll_mem o2 (List.mem_of_getElem? h2)
        have ed := PySem.SeqAt.plain_unique dd _ v as bs pl hr2 hr
        rw [hz'] at ed
        subst ed
        exact ⟨x, H, I', h3, k _ H (fun _ _ e => e) (new_sh h4)⟩
      rcases h1.seq hy with ⟨p, vs, rfl, rfl, q, rr⟩ | ⟨p, vs, rfl, rfl, q, rr⟩
      · obtain ⟨its, n, rv, hg, _, l1⟩ := lstR I q
        obtain ⟨as, hr, _⟩ := rr.reads I.hok I.kIn rv
        rw [Vals.ref1 r]
        exact PySem.W.min_list_data (I.ok.hd hc) ⟨_, hg, rfl, n, rfl⟩ (by simpa using hr) o1 (by omega) fun i v h' tk bs hv hr' hk => fin rr rv hv hr' hk
      · obtain ⟨its, rv, pl, _⟩ := I.tuple q
        obtain ⟨as, hr, _⟩ := rr.reads I.hok I.kIn rv
        rw [Vals.ref1 r]
        exact PySem.W.min_tuple_data (I.ok.hd hc) pl (by simpa using hr) o1 (by omega) fun i v h' tk bs hv hr' hk => fin rr rv hv hr' hk
  · cases e2
theorem cv_max1 (hc : X.calm = true) (S : Sys X) (hu : X.A.units + 200 < cLine) : CallV X (.builtin "max") .max1 := by
  intro pins s σ H xs us Q I r ⟨ds, own, d, ra, e, k⟩
  obtain ⟨x, d1, rfl, rfl, h1⟩ := one_arg ra e rfl (by intro a b l; cases a <;> rfl)
  obtain ⟨ys, hy, e2⟩ := Option.bind_eq_some_iff.mp (show (asSeq d1).bind (fun xs => if cmpOk xs then (bests (fun y a => PySem.W.dataLt a y) xs).map fun x => (false, x) else none) = some (own, d) from e)
  split at e2
  · rename_i ho
    obtain ⟨z, hz, e3⟩ := Option.map_eq_some_iff.mp e2
    obtain ⟨rfl, rfl⟩ : own = false ∧ d = z := by cases e3; exact ⟨rfl, rfl⟩
    obtain ⟨o1, o2, o3⟩ := cmpOk_of ho
    cases ys with
    | nil => cases hz
    | cons y yr =>
      have hz' : PySem.W.maxD y yr = d := Option.some.inj hz
      have fin : ∀ {vs : List V} {its : List Value} {i : Nat} {v : Value} {h' : Heap} {tk : Nat} {bs : List Addr}, RepAll (kw X) H vs (y :: yr) → Vals vs its → its.toArray[i]? = some v → Reads h' v (PySem.W.maxD y yr) bs → (∀ b o, s.heap.get? b = some o → h'.get? b = some o) →
          EP X pins σ Q v { s with heap := h', toks := tk } := by
        intro vs its i v h' tk bs rr rv hv hr hk
        obtain ⟨x, dd, h1, h2, h3, h4⟩ := atI_place rv rr (by simpa using hv)
        have I' : Inv X pins σ H { s with heap := h', toks := tk } := I.kept hk
        obtain ⟨as, hr2, _⟩ := h4.reads I'.hok I'.kIn h3
        have pl : dd.plain = true := plainAll_mem o2 (List.mem_of_getElem? h2)
        have ed := PySem.SeqAt.plain_unique dd _ v as bs pl hr2 hr
        rw [hz'] at ed
        subst ed
        exact ⟨x, H, I', h3, k _ H (fun _ _ e => e) (new_sh h4)⟩
      rcases h1.seq hy with ⟨p, vs, rfl, rfl, q, rr⟩ | ⟨p, vs, rfl, rfl, q, rr⟩
      · obtain ⟨its, n, rv, hg, _, l1⟩ := lstR I q
        obtain ⟨as, hr, _⟩ := rr.reads I.hok I.kIn rv
        rw [Vals.ref1 r]
        exact PySem.W.max_list_data (I.ok.hd hc) ⟨_, hg, rfl, n, rfl⟩ (by simpa using hr) o1 (by omega) fun i v h' tk bs hv hr' hk => fin rr rv hv hr' hk
      · obtain ⟨its, rv, pl, _⟩ := I.tuple q
        obtain ⟨as, hr, _⟩ := rr.reads I.hok I.kIn rv
        rw [Vals.ref1 r]
        exact PySem.W.max_tuple_data (I.ok.hd hc) pl (by simpa using hr) o1 (by omega) fun i v h' tk bs hv hr' hk => fin rr rv hv hr' hk
  · cases e2
theorem cv_repr (S : Sys X) (hg : X.A.guards = some []) (hu : X.A.units + 200 < cLine) : CallV X (.builtin "repr") .repr := by
  intro pins s σ H xs us Q I r ⟨ds, own, d, ra, e, k⟩
  obtain ⟨x, d1, rfl, rfl, h1⟩ := one_arg ra e rfl (by intro a b l; cases a <;> rfl)
  replace e : (if d1.showable && (decide (d1.depth ≤ 100) && szOk d1.shown.length) then some (false, PyData.str d1.shown) else none) = some (own, d) := e
  split at e
  · rename_i hh
    cases e
    simp only [Bool.and_eq_true, decide_eq_true_eq, szOk] at hh
    obtain ⟨h2, h3, h4⟩ := hh
    obtain ⟨u, rfl, rx⟩ := vals1 r
    obtain ⟨as, hr, hn⟩ := rds S I h1 rx
    have fin : ∀ {h' : Heap} {t : Tok} {tk : Nat}, (∀ b o, s.heap.get? b = some o → h'.get? b = some o) → EP X pins σ Q (.str d1.shown t) { s with heap := h', toks := tk } := fun {h' t tk} hk =>
      ⟨.str d1.shown, H, I.kept hk, ⟨_, rfl⟩, k _ H (fun _ _ e => e) (new_sh (.str _))⟩
    have fin0 : ∀ {t : Tok} {tk : Nat}, EP X pins σ Q (.str d1.shown t) { s with toks := tk } := fun {t tk} => fin (h' := s.heap) fun _ _ e => e
    cases hr with
    | none => exact PySem.P.repr_of_none fin0
    | bool b =>
      refine PySem.P.repr_of_bool ?_
      have := fin0 (t := s.toks) (tk := s.toks + 1)
      cases b <;> exact this
    | int i t => exact PySem.P.repr_of_int (by simpa [PyData.showable] using h2) fin0
    | str z t => exact PySem.P.repr_of_str fin0 h4
    | list a b c f => exact PySem.repr_of_reads' (.list a b c f) h2 (fun _ => hn) hg (by omega) (fun _ _ e => e) (fun h' u tk hk => fin hk) h4
    | tuple a b c f => exact PySem.repr_of_reads' (.tuple a b c f) h2 (fun _ => hn) hg (by omega) (fun _ _ e => e) (fun h' u tk hk => fin hk) h4
    | dict a b c f g => exact PySem.repr_of_reads' (.dict a b c f g) h2 (fun _ => hn) hg (by omega) (fun _ _ e => e) (fun h' u tk hk => fin hk) h4
  · cases e
theorem alikeD_of {ds : List PyData} (h : alikeD ds = true) : PySem.W.AllAlike ds := by
  unfold alikeD at h
  simp only [List.all_eq_true] at h
  exact h
theorem sortOk_of {ds : List PyData} (h : sortOk ds = true) : PySem.W.AllAlike ds ∧ PySem.W.Sortable ds := by
  unfold sortOk at h
  simp only [Bool.or_eq_true, Bool.and_eq_true, List.all_eq_true] at h
  rcases h with ⟨h1, h2⟩ | ⟨h1, h2⟩
  · refine ⟨alikeD_of h1, .inl fun d hd => ?_⟩
    have := h2 d hd
    split at this
    · exact ⟨_, _, rfl⟩
    · cases this
  · refine ⟨alikeD_of h1, .inr fun d hd => ?_⟩
    have := h2 d hd
    split at this
    · refine ⟨?_, ?_⟩
      · intro z
        cases z
      · intro _ z
        cases z
    · cases this
theorem depthAll_mem : ∀ {ds : List PyData} {d : PyData}, d ∈ ds → d.depth ≤ PyData.depthAll ds
  | x :: xs, d, hm => by
    simp only [PyData.depthAll]
    rcases List.mem_cons.mp hm with rfl | hm
    · exact Nat.le_max_left _ _
    · exact Nat.le_trans (depthAll_mem hm) (Nat.le_max_right _ _)
theorem each_of {K : MKx} {H : Hp} : ∀ {vs : List V} {us : List Value} {ds : List PyData}, RepAll K H vs ds → Vals vs us → PySem.W.EachIs (fun u d => ∃ x, RelV x u ∧ Rep K H x d) us ds
  | _, _, _, .nil, .nil => .nil
  | _, _, _, .cons a b, .cons r t => .cons ⟨_, r, a⟩ (each_of b t)
theorem of_each {K : MKx} {H : Hp} : ∀ {us : List Value} {ds : List PyData}, PySem.W.EachIs (fun u d => ∃ x, RelV x u ∧ Rep K H x d) us ds → ∃ vs, Vals vs us ∧ RepAll K H vs ds
  | _, _, .nil => ⟨[], .nil, .nil⟩
  | _, _, .cons ⟨x, r, a⟩ b => by
    obtain ⟨vs, h1, h2⟩ := of_each b
    exact ⟨x :: vs, .cons r h1, .cons a h2⟩
theorem each_reads {K : MKx} {H : Hp} {P : Program} {w : World} {h : Heap} (ok : HOk P w H h) (kin : K.fr.In h) : ∀ {us : List Value} {ds : List PyData}, PySem.W.EachIs (fun u d => ∃ x, RelV x u ∧ Rep K H x d) us ds → PySem.W.EachIs (fun u d => ∃ as, Reads h u d as) us ds
  | _, _, .nil => .nil
  | _, _, .cons ⟨x, r, a⟩ b => .cons (let ⟨as, q, _⟩ := a.reads ok kin r; ⟨as, q⟩) (each_reads ok kin b)
theorem collect_tup {P : Program} {w : World} {A : Around} {E : Value → Shared → Prop} {s : Shared} {l : Addr} {vs : List Value} {Q : List Value → Shared → Prop} (hl : IsTup s.heap l vs.toArray)
    (h : Q vs { s with heap := (s.heap.push (seqObj "list" #[] 0)).update s.heap.objs.size (Obj.mapSeq (· ++ vs.toArray)) }) (hsz : vs.length ≤ sizeLine) : wpAny (model P w) A (collect (.ref l)) Q E s := by
  obtain ⟨o, ho, hc, n, hd⟩ := id hl
  unfold collect
  refine wpAny_bind (wpAny_runValue (codeAny_builtin entry_proto_collect' ?_))
  show wpAny _ _ (newList [] >>= fun nl => again (.builtin "list.__iadd__" ⟨[nl, .ref l], []⟩)) _ _ s
  refine wpAny_bind (wpAny_newList (wpAny_pure ⟨Code.quiet_builtin _ (by decide +kernel), codeAny_builtin entry_list_iadd' ?_⟩))
  show wpAny _ _ (Builtin.List.listExtendWith (Value.ref s.heap.objs.size) (Value.ref l) (Value.ref s.heap.objs.size)) _ _ { s with heap := s.heap.push (seqObj "list" #[] 0) }
  unfold Builtin.List.listExtendWith
  have ho' : (s.heap.push (seqObj "list" #[] 0)).get? l = some o := Heap.get?_push_of_some _ ho
  refine wpAny_bind (wpAny_typeOf (T := "tuple") ⟨o, ho', hc⟩ ?_)
  have ht : (Value.type "tuple" == Value.type "tuple") = true := by rfl
  rw [if_pos (by rw [ht] <;> simp)]
  refine wpAny_bind (listItems_at ho' hd ?_)
  refine wpAny_bind (listItems_at (n := 0) (xs := #[]) (Heap.get?_push_size _ rfl) rfl ?_)
  rw [if_neg (by simp)]
  refine wpAny_bind (listUpdate_at (n := 0) (xs := #[]) (Heap.get?_push_size _ rfl) rfl ?_ (Nat.zero_le _) (by show (#[] ++ vs.toArray).size ≤ sizeLine + 1; rw [Array.size_append, List.size_toArray]; simp only [List.size_toArray, List.length_nil]; omega))
  refine wpAny_pure ?_
  refine wpAny_bind (wpAny_load (get?_update_seq (Heap.get?_push_size _ rfl) _) ?_)
  show wpAny _ _ (pure ((#[] : Array Value) ++ vs.toArray).toList) Q E _
  rw [show ((#[] : Array Value) ++ vs.toArray).toList = vs by simp]
  exact wpAny_pure h
/-- sorted of whatever collects -/
theorem sorted_any {P : Program} {w : World} {A : Around} {E : Value → Shared → Prop} {s : Shared} {l : Addr} {vs : List Value} {Q : Value → Shared → Prop} {κ : KeyKind} (hL : vs.length ≤ sizeLine)
    (hcol : ∀ (A' : Around) (E' : Value → Shared → Prop) (Q' : List Value → Shared → Prop), Q' vs { s with heap := (s.heap.push (seqObj "list" #[] 0)).update s.heap.objs.size (Obj.mapSeq (· ++ vs.toArray)) } → wpAny (model P w) A' (collect (.ref l)) Q' E' s)
    (Sa : PySem.W.SortsAt P w A.in1.in1 { s with heap := PySem.W.sortingHeap (PySem.W.copyHeap s.heap vs) (s.heap.objs.size + 1) vs } κ vs)
    (h : Q (.ref (s.heap.objs.size + 1)) { s with heap := sortedAll s.heap vs (PySem.W.sortVals κ false vs vs).toArray }) : wpAny (model P w) A (call (.builtin "sorted") [.ref l]) Q E s := by
  refine PySem.Calls.call_function_entry kind_sorted plain_sorted entry_sorted (args_sorted1 _) ?_
  unfold Builtin.«sorted»
  refine wpAny_bind (m := checkCount "sorted" 1 1 _) (wpAny_pure ?_)
  refine wpAny_bind (hcol _ _ _ ?_)
  refine wpAny_bind (wpAny_newList ?_ hL)
  have hz : ((s.heap.push (seqObj "list" #[] 0)).update s.heap.objs.size (Obj.mapSeq (· ++ vs.toArray))).objs.size = s.heap.objs.size + 1 := by rw [Heap.size_update, size_push']
  show wpAny _ _ _ _ _ { s with heap := PySem.W.copyHeap s.heap vs }
  rw [hz]
  refine wpAny_bind (wpAny_holding (wpAny_call_entry slot_list_sort ⟨_, PySem.W.copyHeap_at s.heap vs, rfl⟩ entry_list_sort ?_ (args_list_sort _)))
  refine wpAny_mono (PySem.W.list_sort_vals (s := { s with heap := PySem.W.copyHeap s.heap vs }) (P := fun f s' => f = .done (.ret .none) ∧ Q (.ref (s.heap.objs.size + 1)) s') (PySem.W.copyHeap_at s.heap vs) Sa hL ⟨rfl, h⟩) (fun f s' hf => ?_) fun _ _ e => e
  obtain ⟨rfl, hq⟩ := hf
  exact ⟨_, rfl, wpAny_pure ⟨_, rfl, hq⟩⟩
theorem cv_sorted (hc : X.calm = true) (S : Sys X) (hu : X.A.units + 200 < cLine) : CallV X (.builtin "sorted") .sorted := by
  intro pins s σ H xs us Q I r ⟨ds, own, d, ra, e, k⟩
  obtain ⟨x, d1, rfl, rfl, h1⟩ := one_arg ra e rfl (by intro a b l; cases a <;> rfl)
  obtain ⟨ys, hy, e2⟩ := Option.bind_eq_some_iff.mp (show (asSeq d1).bind (fun xs => if sortOk xs && okDs xs then some (true, PyData.list (sortD xs)) else none) = some (own, d) from e)
  split at e2
  · rename_i ho
    cases e2
    rw [Bool.and_eq_true] at ho
    obtain ⟨o1, o2⟩ := sortOk_of ho.1
    obtain ⟨o3, o4⟩ := okDs_of ho.2
    have go : ∀ {p : Addr} {vs : List V} {its : List Value}, RepAll (kw X) H vs ys → Vals vs its → vs.length ≤ sizeLine →
        (∀ (A' : Around) (E' : Value → Shared → Prop) (Q' : List Value → Shared → Prop), Q' its { s with heap := (s.heap.push (seqObj "list" #[] 0)).update s.heap.objs.size (Obj.mapSeq (· ++ its.toArray)) } → wpAny (model X.prog X.w) A' (collect (.ref p)) Q' E' s) →
        wpAny (model X.prog X.w) X.A (call (.builtin "sorted") [.ref p]) (EP X pins σ Q) X.xe s := by
      intro p vs its rr rv hz hcol
      have ea := each_of rr rv
      have er := each_reads I.hok I.kIn ea
      have er' : PySem.W.EachIs (fun v b => ∃ as, Reads (PySem.W.sortingHeap (PySem.W.copyHeap s.heap its) (s.heap.objs.size + 1) its) v b as) its ys := er.mono fun _ _ ⟨as, q⟩ => ⟨as, PyProof.Rows.Reads.keeps (fun _ _ => PySem.W.sorting_copy_old) q⟩
      have hl : its.length ≤ sizeLine := by rw [← rv.length]; exact hz
      refine sorted_any hl hcol (PySem.W.SortsAt.data (A := X.A.in1.in1) (s := { s with heap := PySem.W.sortingHeap (PySem.W.copyHeap s.heap its) (s.heap.objs.size + 1) its }) er' o1 o2 fun d hd => ?_) ?_
      · have := depthAll_mem hd
        show X.A.units + 1 + 1 + d.depth < cLine
        omega
      · have eo := PySem.W.sortVals_data (enc := id) false (by simpa using ea) (by simpa using er') (by rw [List.map_id]; exact o1)
        have es : ys.mergeSort (PySem.W.dataLe false id) = sortD ys := rfl
        rw [es] at eo
        obtain ⟨ws, w1, w2⟩ := of_each eo
        obtain ⟨ep, hat⟩ := sortedAll_at s.heap its (PySem.W.sortVals (PySem.W.dataKind (PySem.W.sortingHeap (PySem.W.copyHeap s.heap its) (s.heap.objs.size + 1) its) (ys.map id)) false its its).toArray
        have hn : H (s.heap.objs.size + 1) = none := I.hok.fresh (Nat.le_succ _)
        have hwl : ws.length ≤ sizeLine := by
          rw [w2.length]
          unfold sortD
          rw [List.length_mergeSort, ← rr.length]
          exact hz
        rw [List.map_id] at hat w1
        exact ⟨.ref _, _, I.laid (t' := s.toks) (o := .lst ws) (fun b o e => sortedAll_old e) (Nat.le_succ _) ⟨hwl, _, ep, w1, hat⟩, rfl, k _ _ (kept_upd hn) (new_lst hn w2)⟩
    rcases h1.seq hy with ⟨p, vs, rfl, rfl, q, rr⟩ | ⟨p, vs, rfl, rfl, q, rr⟩
    · obtain ⟨its, n, rv, hg, hz, l1⟩ := lstR I q
      rw [Vals.ref1 r]
      exact go rr rv hz fun A' E' Q' hq => collect_list ⟨_, hg, rfl, n, rfl⟩ hq (by omega)
    · obtain ⟨its, rv, pl, hz⟩ := I.tuple q
      have := rv.length
      rw [Vals.ref1 r]
      exact go rr rv hz fun A' E' Q' hq => collect_tup pl hq (by omega)
  · cases e2
/-! ### subscripts -/
theorem ix_any : IxR X (fun x y H Q => rV (kw X) .idx [x, y] H Q) := by
  intro value slice pins s σ H x y v u Q I rx ry ⟨ds, own, d, ra, e, k⟩ hs
  obtain ⟨a, b, rfl, h1, h2⟩ := ra2 ra
  cases b <;> try (cases e; done)
  rename_i i
  obtain ⟨ys, hy, e2⟩ := Option.bind_eq_some_iff.mp (show (asSeq a).bind (fun xs => (L2.ixN xs.length i).bind fun k => (xs[k]?).map fun x => (false, x)) = some (own, d) from e)
  obtain ⟨j, hj, e3⟩ := Option.bind_eq_some_iff.mp e2
  obtain ⟨z, hz, e4⟩ := Option.map_eq_some_iff.mp e3
  cases e4
  cases h2.int
  rcases h1.seq hy with ⟨p, vs, rfl, rfl, q, rr⟩ | ⟨p, vs, rfl, rfl, q, rr⟩
  · obtain ⟨w, h3, h4⟩ := rr.get hz
    exact ix_list value slice pins s σ H _ _ v u Q I rx ry ⟨p, vs, i, w, rfl, rfl, .inl q, by unfold L2.atI; rw [rr.length, hj]; exact h3, k _ H (fun _ _ e => e) (new_sh h4)⟩ hs
  · obtain ⟨w, h3, h4⟩ := rr.get hz
    exact ix_tup value slice pins s σ H _ _ v u Q I rx ry ⟨p, vs, i, w, rfl, rfl, q, by unfold L2.atI; rw [rr.length, hj]; exact h3, k _ H (fun _ _ e => e) (new_sh h4)⟩ hs
/-- a slice without a step, by values -/
theorem sl_any : SlR X (fun x lo hi H Q => ∃ d own r, Readable (kw X) H x d ∧ sliceD lo hi none d = some (own, r) ∧ ∀ z H', (∀ a ob, H a = some ob → H' a = some ob) → NewR (kw X) H H' own r z → Q z H') := by
  intro pins s σ H x v vl vu lo hi sl Q I rx hs pl pu ⟨d, own, r, h1, e, k⟩
  cases d <;> try (cases e; done)
  · cases e
    obtain ⟨p, vs, rfl, q, rr⟩ := h1.lst
    refine sl_list pins s σ H _ v vl vu lo hi sl Q I rx hs pl pu ⟨p, vs, rfl, .inl q, fun p2 hp => k _ _ (kept_upd hp) ?_⟩
    refine new_lst hp ?_
    unfold sliced L2.cutV
    rw [← rr.length]
    exact (rr.drop _).take _
  · cases e
    obtain ⟨p, vs, rfl, q, rr⟩ := h1.tup
    refine sl_tupA pins s σ H _ v vl vu lo hi sl Q I rx hs pl pu ⟨p, vs, rfl, q, fun hw => ?_, fun hw p2 hp => k _ _ (kept_upd hp) ?_⟩
    · refine k _ H (fun _ _ e => e) (new_sh ?_)
      unfold sliced
      rw [← rr.length, hw.1, hw.2, Nat.sub_zero, List.drop_zero, List.take_of_length_le (by rw [rr.length]; exact Nat.le_refl _)]
      exact .tup q rr
    · refine new_tup hp ?_
      unfold sliced L2.cutV
      rw [← rr.length]
      exact (rr.drop _).take _
theorem ov_is : OpV X (compareOp .Is) (.cmp .is) := by
  intro pins s σ H x y v u Q I rx ry ⟨ds, own, d, ra, e, k⟩
  obtain ⟨a, b, rfl, h1, h2⟩ := ra2 ra
  cases a <;> try (cases e; done)
  cases b <;> try (cases e; done)
  rename_i a b
  cases e
  refine op_isBl pins s σ H x y v u Q I rx ry ⟨a, b, h1.bool, h2.bool, k _ H (fun _ _ z => z) (new_sh (.bl _))⟩
theorem ov_isnt : OpV X (compareOp .IsNot) (.cmp .isnt) := by
  intro pins s σ H x y v u Q I rx ry ⟨ds, own, d, ra, e, k⟩
  obtain ⟨a, b, rfl, h1, h2⟩ := ra2 ra
  cases a <;> try (cases e; done)
  cases b <;> try (cases e; done)
  rename_i a b
  cases e
  refine op_isnot_bl pins s σ H x y v u Q I rx ry ⟨a, b, h1.bool, h2.bool, k _ H (fun _ _ z => z) (new_sh (.bl _))⟩
end
end MP

/-! MP: what is walked. -/
namespace MP
open PySem PySem.Spec PyProof.Rows L2 PySem.Calls

/-! ### a walked sequence: a list (b), a tuple -/
def Src (K : PySem.W.Frag) (H : Hp) (b : Bool) (a : Addr) (vs : List V) : Prop := if b = true then Rd H a (.lst vs) else SqT K H a vs
def SrcIt (h : Heap) (it : Addr) (b : Bool) (a : Addr) (i : Nat) : Prop := if b = true then h.IsListIter it a i else h.IsTupleIter it a i
def SrcHas (h : Heap) (b : Bool) (a : Addr) (its : Array Value) : Prop := if b = true then h.IsList a its else h.IsTuple a its
def srcObj (b : Bool) (a : Addr) : Obj := if b = true then { cls := .type "list_iterator", data := .fields #[.ref a, .int 0 0] } else { cls := .type "tuple_iterator", data := .fields #[.ref a, .int 0 0] }
section
variable {X : Cx} {pins : List (Addr × Obj)} {σ : L2.St} {H : Hp} {s : Shared} {b : Bool} {a it : Addr} {vs ws : List V} {h h' : Heap} {i : Nat}
theorem Src.has (I : Inv X pins σ H s) (q : Src X.K H b a vs) : ∃ its : List Value, Vals vs its ∧ SrcHas s.heap b a its.toArray ∧ vs.length ≤ sizeLine := by
  cases b with
  | true =>
    obtain ⟨its, rv, p, z⟩ := I.list (.inl q)
    exact ⟨its, rv, p.isList, z⟩
  | false =>
    obtain ⟨its, rv, p, z⟩ := I.tuple q
    exact ⟨its, rv, p, z⟩
theorem Src.inj (I : Inv X pins σ H s) (q : Src X.K H b a vs) (q' : Src X.K H b a ws) : vs = ws := by
  cases b with
  | true => exact I.list_inj (.inl q) (.inl q')
  | false => exact I.tuple_inj q q'
theorem SrcIt.to (q : SrcIt h it b a i) (k : ∀ o, h.get? it = some o → h'.get? it = some o) : SrcIt h' it b a i := by
  cases b with
  | true => exact Heap.IsListIter.at q fun o e => k o e
  | false => exact Heap.IsTupleIter.at q fun o e => k o e
theorem SrcIt.obj (q : SrcIt h it b a i) : ∃ o, h.get? it = some o ∧ ∀ v, o.data ≠ .cell v := by
  cases b with
  | true =>
    obtain ⟨o, e, _, d⟩ := (show h.IsListIter it a i from q)
    exact ⟨o, e, fun v z => by rw [d] at z; cases z⟩
  | false =>
    obtain ⟨o, e, _, d⟩ := (show h.IsTupleIter it a i from q)
    exact ⟨o, e, fun v z => by rw [d] at z; cases z⟩
theorem SrcIt.new (e : h.get? it = some (srcObj b a)) : SrcIt h it b a 0 := by
  cases b with
  | true => exact ⟨_, e, rfl, rfl⟩
  | false => exact ⟨_, e, rfl, rfl⟩
theorem src_begins (b : Bool) (a : Addr) (its : Array Value) : Begins (.ref a) (srcObj b a) (fun h => SrcHas h b a its) := by
  cases b with
  | true => exact begins_list a its
  | false => exact begins_tuple a its
theorem src_draws {P : Program} {w : World} {A : Around} (hh : A.handled = none) (it a : Addr) (b : Bool) (hne : a ≠ it) (its : Array Value) :
    Draws P w A it [it, a] its.size (fun i v => its[i]? = some v) (fun i h => SrcIt h it b a i ∧ SrcHas h b a its) := by
  cases b with
  | true => exact Draws.list hh it a hne its
  | false => exact Draws.tuple hh it a hne its
theorem SrcHas.lt {its : Array Value} (q : SrcHas h b a its) : a < h.objs.size := by
  cases b with
  | true =>
    obtain ⟨o, e, _⟩ := (show h.IsList a its from q)
    exact Heap.lt_size e
  | false =>
    obtain ⟨o, e, _⟩ := (show h.IsTuple a its from q)
    exact Heap.lt_size e
end
/-- fixed -/
def SrcF (K : PySem.W.Frag) (H : Hp) (b : Bool) (a : Addr) (vs : List V) : Prop := if b = true then ∃ o, H a = some (.frz o (.lst vs)) else SqT K H a vs
section
variable {K : PySem.W.Frag} {H H' : Hp} {b : Bool} {a : Addr} {vs : List V}
theorem SrcF.ext (e : Ext H H') (q : SrcF K H b a vs) : SrcF K H' b a vs := by
  cases b with
  | true =>
    obtain ⟨o, q⟩ := (show ∃ o, H a = some (.frz o (.lst vs)) from q)
    exact ⟨o, (e a).2 _ _ q⟩
  | false => exact SqT.ext e q
theorem SrcF.src (q : SrcF K H b a vs) : Src K H b a vs := by
  cases b with
  | true => exact .inr q
  | false => exact q
end
/-- an iterator that yields these data -/
def ItRel (K : MKx) (J : L2.It) (ds : List PyData) (H : Hp) : Prop := ∀ H1, Ext H H1 → (∀ i d, ds[i]? = some d → J.go i H1) ∧ (∀ i x H2, i < ds.length → J.yld i H1 x H2 → (∀ a o, H1 a = some o → H2 a = some o) ∧ ∃ d, ds[i]? = some d ∧ Rep K H2 x d) ∧ J.stop ds.length H1
section
variable {K : MKx} {H : Hp} {b : Bool} {a : Addr} {vs : List V} {ds : List PyData}
theorem it_list {o : Obj} (h : H a = some (.frz o (.lst vs))) (r : RepAll K H vs ds) : ItRel K (Itl K a) ds H := fun H1 e => by
  have h1 : SqL K H1 a vs := .inl (.inr ⟨o, (e a).2 _ _ h⟩)
  have r1 := r.ext e
  refine ⟨fun i d hd => ?_, fun i x H2 _ y => ?_, vs, h1, by rw [r.length]; exact Nat.le_refl _⟩
  · obtain ⟨x, hx, _⟩ := r1.get hd
    exact ⟨vs, x, h1, hx⟩
  · obtain ⟨rfl, y⟩ := y
    obtain ⟨d, hd, hr⟩ := r1.get' (y vs h1)
    exact ⟨fun _ _ q => q, d, hd, hr⟩
theorem it_tup (h : SqT K H a vs) (r : RepAll K H vs ds) : ItRel K (Itt K a) ds H := fun H1 e => by
  have h1 : SqT K H1 a vs := SqT.ext e h
  have r1 := r.ext e
  refine ⟨fun i d hd => ?_, fun i x H2 _ y => ?_, vs, h1, by rw [r.length]; exact Nat.le_refl _⟩
  · obtain ⟨x, hx, _⟩ := r1.get hd
    exact ⟨vs, x, h1, hx⟩
  · obtain ⟨rfl, y⟩ := y
    obtain ⟨d, hd, hr⟩ := r1.get' (y vs h1)
    exact ⟨fun _ _ q => q, d, hd, hr⟩
theorem rngL_get {lo hi : Int} {i : Nat} : (rngL lo hi)[i]? = if i < (hi - lo).toNat then some (.int (lo + (i : Nat))) else none := by
  unfold rngL
  rw [List.getElem?_map]
  by_cases h : i < (hi - lo).toNat
  · rw [List.getElem?_range h, if_pos h]
    rfl
  · rw [List.getElem?_eq_none (by rw [List.length_range]; omega), if_neg h]
    rfl
theorem rngL_length {lo hi : Int} : (rngL lo hi).length = (hi - lo).toNat := by
  unfold rngL
  rw [List.length_map, List.length_range]
theorem it_rng {lo hi : Int} : ItRel K (Itr lo (hi - lo).toNat) (rngL lo hi) H := fun H1 e => by
  refine ⟨fun i d hd => ?_, fun i x H2 hi y => ?_, by rw [rngL_length]; exact Nat.le_refl _⟩
  · have := (List.getElem?_eq_some_iff.mp hd).1
    rw [rngL_length] at this
    exact this
  · obtain ⟨rfl, rfl⟩ := y
    rw [rngL_length] at hi
    exact ⟨fun _ _ q => q, _, by rw [rngL_get, if_pos hi], .int _⟩
end
/-! ### tuples given out -/
theorem turn_gn {P : Program} {w : World} {K : PySem.W.Frag} {tg : Expr} {J : L2.It} {fp : List Addr} {it : Addr} {tn : Nat → Heap → Prop} (wr : List Addr) (mem : it ∈ fp) (hw : ∀ b ∈ wr, b ∈ fp)
    (obj : ∀ i h, tn i h → ∀ b ∈ fp, ∃ o, h.get? b = some o ∧ ∀ v, o.data ≠ .cell v) (keep : ∀ i h h', tn i h → (∀ b ∈ fp, ∀ o, h.get? b = some o → h'.get? b = some o) → tn i h')
    (go : ∀ (X : Cx), X.prog = P → X.w = w → X.K = K → X.calm = true → ∀ (i : Nat) (pins : List (Addr × Obj)) (s : Shared) (σ : L2.St) (H : Hp), Inv X pins σ H s → tn i s.heap → J.go i H →
      ∃ (fp' : List Addr) (n : Nat) (Y : Nat → Heap → Value → Heap → Prop) (St : Nat → Heap → Prop), GoesN P w X.A tg it fp' wr n Y St ∧ i < n ∧ St i s.heap ∧ (∀ h', St (i + 1) h' → tn (i + 1) h') ∧
        ∀ v h', Y i s.heap v h' → ∃ (T : Addr) (xs : List V) (us : List Value), v = .ref T ∧ s.heap.objs.size ≤ T ∧ xs.length ≤ sizeLine ∧ Vals xs us ∧ IsTup h' T us.toArray ∧ (H T = none → J.yld i H (.ref T) (upd H T (.tup xs))))
    (stop : ∀ (X : Cx), X.prog = P → X.w = w → X.K = K → X.calm = true → ∀ (i : Nat) (pins : List (Addr × Obj)) (s : Shared) (σ : L2.St) (H : Hp), Inv X pins σ H s → tn i s.heap → J.stop i H →
      ∃ (fp' : List Addr) (n : Nat) (Y : Nat → Heap → Value → Heap → Prop) (St : Nat → Heap → Prop), GoesN P w X.A tg it fp' wr n Y St ∧ i = n ∧ St i s.heap)
    (self : ∀ (P : Program) (w : World) (A : Around) (i : Nat) (s : Shared) (Q : Value → Shared → Prop) (E : Value → Shared → Prop), tn i s.heap → Q (.ref it) s → wpAny (model P w) A (pyIter (.ref it)) Q E s) : Turn P w K tg J fp it tn where
  mem := mem
  obj := obj
  keep := keep
  item := by
    intro X hP hw' hK hc i pins s σ H E I hf st hg
    obtain ⟨fp', n, Y, St, G, hi, hst, nxt, yl⟩ := go X hP hw' hK hc i pins s σ H I st hg
    subst hP hw' hK
    refine thn (G.goes i s (fun u s2 => ∃ x H', Inv X pins σ H' s2 ∧ RelV x u ∧ J.yld i H x H' ∧ tn (i + 1) s2.heap ∧ ∀ b ∈ fp, H' b = none) E hi hst fun v h' tk hY st' hk _ => ?_) fun r s1 ⟨u, e, q⟩ => ⟨u, e, q⟩
    obtain ⟨T, xs, us, rfl, hT, hz, rv, hp, y⟩ := yl v h' hY
    have hn : H T = none := I.hok.fresh hT
    have I1 : Inv X pins σ (upd H T (.tup xs)) { s with heap := h', toks := tk } := I.turnedNew (ch := wr) hk (fun b hb => hf b (hw b hb)) hT ⟨hz, us, rv, hp⟩
    refine ⟨.ref T, _, I1, rfl, y hn, nxt _ st', fun b hb => ?_⟩
    obtain ⟨o, e, _⟩ := obj i _ st b hb
    rw [upd_ne (Nat.ne_of_lt (Nat.lt_of_lt_of_le (Heap.lt_size e) hT))]
    exact (hf b hb).1
  done := by
    intro X hP hw' hK hc i pins s σ H E I hf st hg
    obtain ⟨fp', n, Y, St, G, hi, hst⟩ := stop X hP hw' hK hc i pins s σ H I st hg
    subst hP hw' hK hi
    exact G.stops s (fun s1 => Inv X pins σ H s1) E hst fun h' tk hk _ => I.turnedL (ch := wr) hk fun b hb => hf b (hw b hb)
  self := fun A i s Q E st h => self P w A i s Q E st h

/-- i, x of the sequence at a -/
def Itn (K : PySem.W.Frag) (b : Bool) (a : Addr) : L2.It :=
  ⟨fun i H => ∃ vs x, Src K H b a vs ∧ vs[i]? = some x, fun i H v H' => ∃ T x, v = .ref T ∧ H T = none ∧ H' = upd H T (.tup [.int (i : Nat), x]) ∧ ∀ vs, Src K H b a vs → vs[i]? = some x, fun i H => ∃ vs, Src K H b a vs ∧ vs.length = i⟩
theorem turn_itn {P : Program} {w : World} {K : PySem.W.Frag} {elts : List Expr} {kk : Nat} {tpos : Pos} {b : Bool} {a e it : Addr} (hei : e ≠ it) (hae : a ≠ e) (hai : a ≠ it) :
    Turn P w K (.Tuple elts kk tpos) (Itn K b a) [e, it] e (fun i h => (∃ old, IsEnum h e it (i : Nat) old) ∧ SrcIt h it b a i) := by
  have G : ∀ {A : Around}, A.handled = none → ∀ its : Array Value, GoesN P w A (.Tuple elts kk tpos) e [e, it, a] [e, it] its.size (fun i h₀ v h => ∃ T t x, v = .ref T ∧ h₀.objs.size ≤ T ∧ its[i]? = some x ∧ h.IsTuple T #[.int (0 + (i : Int)) t, x]) (fun i h => (∃ old, IsEnum h e it (0 + (i : Int)) old) ∧ SrcIt h it b a i ∧ SrcHas h b a its) := fun hh its =>
    GoesN.enumFrom 0 (src_draws (A := Around.in1 _) hh it a b hai its) e hei (by simp only [List.mem_cons, List.not_mem_nil, or_false, not_or]; exact ⟨hei, fun z => hae z.symm⟩) (List.mem_cons_self ..)
  refine turn_gn [e, it] (List.mem_cons_self ..) (fun _ h => h) (fun i h st c hc => ?_) (fun i h h' st k => ?_) (fun X hP hw hK hc i pins s σ H I st hg => ?_) (fun X hP hw hK hc i pins s σ H I st hg => ?_) fun P w A i s Q E st h => ?_
  · obtain ⟨⟨old, he⟩, hi⟩ := st
    have e' : c = e ∨ c = it := by simpa using hc
    rcases e' with z | z
    · rw [z]
      exact ⟨_, he, fun v q => nomatch q⟩
    · rw [z]
      exact hi.obj
  · obtain ⟨⟨old, he⟩, hi⟩ := st
    exact ⟨⟨old, k e (by simp) _ he⟩, hi.to fun o q => k it (by simp) o q⟩
  · subst hK
    obtain ⟨vs, x, hq, hx⟩ := hg
    obtain ⟨its, rv, hs, hz⟩ := hq.has I
    obtain ⟨u, hu, ru⟩ := rv.get hx
    have z0 : (0 : Int) + (i : Nat) = (i : Nat) := Int.zero_add _
    refine ⟨_, _, _, _, G (I.ok.hd hc) its.toArray, ?_, ⟨by rw [z0]; exact st.1, st.2, hs⟩, fun h' st' => ?_, fun v h' y => ?_⟩
    · have := (List.getElem?_eq_some_iff.mp hu).1
      simpa using this
    · obtain ⟨h1, h2, _⟩ := st'
      have z1 : (0 : Int) + ((i + 1 : Nat) : Int) = ((i + 1 : Nat) : Int) := Int.zero_add _
      rw [z1] at h1
      exact ⟨h1, h2⟩
    · obtain ⟨T, t, x', rfl, hT, hx', hp⟩ := y
      have ex : x' = u := by
        have q : its[i]? = some x' := by simpa using hx'
        rw [hu] at q
        exact (Option.some.inj q).symm
      subst ex
      refine ⟨T, [.int (i : Nat), x], [.int (i : Nat) t, x'], rfl, hT, by show 2 ≤ sizeLine; decide, .cons ⟨t, rfl⟩ (.cons ru .nil), ?_, fun hn => ⟨T, x, rfl, hn, rfl, fun ws hw' => by rw [Src.inj I hw' hq]; exact hx⟩⟩
      rw [z0] at hp
      exact hp
  · subst hK
    obtain ⟨vs, hq, hl⟩ := hg
    obtain ⟨its, rv, hs, hz⟩ := hq.has I
    have z0 : (0 : Int) + (i : Nat) = (i : Nat) := Int.zero_add _
    refine ⟨_, _, _, _, G (I.ok.hd hc) its.toArray, ?_, ⟨by rw [z0]; exact st.1, st.2, hs⟩⟩
    rw [List.size_toArray, ← rv.length]
    exact hl.symm
  · obtain ⟨⟨old, he⟩, _⟩ := st
    exact wpAny_pyIter_enum he h
/-! ### zip -/
def Itzz (K : PySem.W.Frag) (b1 b2 : Bool) (a1 a2 : Addr) : L2.It :=
  ⟨fun i H => ∃ vs ws x y, Src K H b1 a1 vs ∧ Src K H b2 a2 ws ∧ vs[i]? = some x ∧ ws[i]? = some y,
    fun i H v H' => ∃ T x y, v = .ref T ∧ H T = none ∧ H' = upd H T (.tup [x, y]) ∧ (∀ vs, Src K H b1 a1 vs → vs[i]? = some x) ∧ ∀ vs, Src K H b2 a2 vs → vs[i]? = some y,
    fun i H => ∃ vs ws, Src K H b1 a1 vs ∧ Src K H b2 a2 ws ∧ min vs.length ws.length = i⟩
def Tnz (b1 b2 : Bool) (a1 a2 z TI TO i1 i2 : Addr) (i : Nat) (h : Heap) : Prop := IsZip h z TI TO .none ∧ IsTupOf2 h TI (.ref i1) (.ref i2) ∧ (∃ x y, IsTupOf2 h TO x y) ∧ SrcIt h i1 b1 a1 i ∧ SrcIt h i2 b2 a2 i
theorem get_vals {vs : List Value} {i : Nat} {x u : Value} (h : vs.toArray[i]? = some x) (h' : vs[i]? = some u) : x = u := by
  have q : vs[i]? = some x := by simpa using h
  rw [h'] at q
  exact (Option.some.inj q).symm
theorem turn_itzz {P : Program} {w : World} {K : PySem.W.Frag} {elts : List Expr} {kk : Nat} {tpos : Pos} {b1 b2 : Bool} {a1 a2 z TI TO i1 i2 : Addr} (S : ZipSep2 z TI TO i1 i2 [i1, a1] [i2, a2]) (h1 : a1 ≠ i1) (h2 : a2 ≠ i2) :
    Turn P w K (.Tuple elts kk tpos) (Itzz K b1 b2 a1 a2) [z, TI, TO, i1, i2] z (Tnz b1 b2 a1 a2 z TI TO i1 i2) := by
  have G : ∀ {A : Around}, A.handled = none → ∀ its its2 : Array Value, GoesN P w A (.Tuple elts kk tpos) z (z :: TI :: TO :: ([i1, a1] ++ [i2, a2])) [z, TO, i1, i2] (min its.size its2.size)
      (fun i h₀ v h => ∃ T x y, v = .ref T ∧ h₀.objs.size ≤ T ∧ its[i]? = some x ∧ its2[i]? = some y ∧ h.IsTuple T #[x, y])
      (fun i h => IsZip h z TI TO .none ∧ IsTupOf2 h TI (.ref i1) (.ref i2) ∧ (∃ x y, IsTupOf2 h TO x y) ∧ (SrcIt h i1 b1 a1 i ∧ SrcHas h b1 a1 its) ∧ (SrcIt h i2 b2 a2 i ∧ SrcHas h b2 a2 its2)) := fun hh its its2 =>
    GoesN.zip2 S (src_draws (A := Around.in1 _) hh i1 a1 b1 h1 its) (src_draws (A := Around.in1 _) hh i2 a2 b2 h2 its2)
  refine turn_gn [z, TO, i1, i2] (List.mem_cons_self ..) (fun c h => by simp only [List.mem_cons, List.not_mem_nil, or_false] at h ⊢; rcases h with h | h | h | h <;> simp [h]) (fun i h st c hc => ?_) (fun i h h' st k => ?_) (fun X hP hw hK hc i pins s σ H I st hg => ?_) (fun X hP hw hK hc i pins s σ H I st hg => ?_) fun P w A i s Q E st h => ?_
  · obtain ⟨q1, q2, ⟨x, y, q3⟩, q4, q5⟩ := st
    have e' : c = z ∨ c = TI ∨ c = TO ∨ c = i1 ∨ c = i2 := by simpa using hc
    rcases e' with e | e | e | e | e
    · rw [e]
      exact ⟨_, q1, fun v q => nomatch q⟩
    · rw [e]
      exact ⟨_, q2, fun v q => nomatch q⟩
    · rw [e]
      exact ⟨_, q3, fun v q => nomatch q⟩
    · rw [e]
      exact q4.obj
    · rw [e]
      exact q5.obj
  · obtain ⟨q1, q2, ⟨x, y, q3⟩, q4, q5⟩ := st
    exact ⟨k z (by simp) _ q1, k TI (by simp) _ q2, ⟨x, y, k TO (by simp) _ q3⟩, q4.to fun o q => k i1 (by simp) o q, q5.to fun o q => k i2 (by simp) o q⟩
  · subst hK
    obtain ⟨vs, ws, x, y, hq, hq2, hx, hy⟩ := hg
    obtain ⟨its, rv, hs, hz⟩ := hq.has I
    obtain ⟨its2, rv2, hs2, hz2⟩ := hq2.has I
    obtain ⟨u, hu, ru⟩ := rv.get hx
    obtain ⟨u2, hu2, ru2⟩ := rv2.get hy
    obtain ⟨q1, q2, q3, q4, q5⟩ := st
    refine ⟨_, _, _, _, G (I.ok.hd hc) its.toArray its2.toArray, ?_, ⟨q1, q2, q3, ⟨q4, hs⟩, q5, hs2⟩, fun h' st' => ?_, fun v h' yy => ?_⟩
    · have g1 := (List.getElem?_eq_some_iff.mp hu).1
      have g2 := (List.getElem?_eq_some_iff.mp hu2).1
      simp only [List.size_toArray]
      omega
    · obtain ⟨g1, g2, g3, ⟨g4, _⟩, g5, _⟩ := st'
      exact ⟨g1, g2, g3, g4, g5⟩
    · obtain ⟨T, x', y', rfl, hT, hx', hy', hp⟩ := yy
      have e1 := get_vals hx' hu
      have e2 := get_vals hy' hu2
      subst e1 e2
      exact ⟨T, [x, y], [x', y'], rfl, hT, by show 2 ≤ sizeLine; decide, .cons ru (.cons ru2 .nil), hp, fun hn => ⟨T, x, y, rfl, hn, rfl, fun l hl => by rw [Src.inj I hl hq]; exact hx, fun l hl => by rw [Src.inj I hl hq2]; exact hy⟩⟩
  · subst hK
    obtain ⟨vs, ws, hq, hq2, hl⟩ := hg
    obtain ⟨its, rv, hs, hz⟩ := hq.has I
    obtain ⟨its2, rv2, hs2, hz2⟩ := hq2.has I
    obtain ⟨q1, q2, q3, q4, q5⟩ := st
    refine ⟨_, _, _, _, G (I.ok.hd hc) its.toArray its2.toArray, ?_, ⟨q1, q2, q3, ⟨q4, hs⟩, q5, hs2⟩⟩
    rw [List.size_toArray, List.size_toArray, ← rv.length, ← rv2.length]
    exact hl.symm
  · exact wpAny_pyIter_zip st.1 h

/-! ### iterators begun -/
theorem newCall_en1 (a : Value) : checkBuiltinCall "enumerate.__new__" ⟨[.type "enumerate", a], []⟩ = pure () := F.newCall_enumerate_1 a
theorem meets_en1 {v : Value} {o : Obj} {H : Heap → Prop} (B : Begins v o H) :
    Meets (Builtin.«enumerate.__new__» ⟨[.type "enumerate", v], []⟩) (fun _ R s => H s.heap ∧
      R (.ok (.ret (.ref (s.heap.push o).objs.size))) { s with heap := (s.heap.push o).push { cls := .type "enumerate", data := .fields #[.none, .bool false, .ref s.heap.objs.size, rawInt 0, .none, .none] } }) :=
  .of_wp fun prog w A R s h => by
    obtain ⟨hp, g, d, tk, os⟩ := s
    obtain ⟨h1, h⟩ := h
    have hsub := sub_enumerate
    have goes : ∀ {A' : Around} {E : Value → Shared → Prop} {Q : Value → Shared → Prop}, Q (.ref hp.objs.size) ⟨hp.push o, g, d, tk, os⟩ → wpAny (model prog w) A' (pyIter v) Q E ⟨hp, g, d, tk, os⟩ :=
      fun q => B.iter prog w _ _ ⟨hp, g, d, tk, os⟩ _ h1 q
    wp_walk using goes
    refine wpAny_stack_any fun st => wpAny_pure ?_
    split
    · rename_i c _ _ _ _ _
      cases (c == Value.type "enumerate")
      all_goals
        wp_walk using goes
        exact ⟨_, rfl, h⟩
    · wp_walk using goes
      exact ⟨_, rfl, h⟩
theorem en1_begins {P : Program} {w : World} {A : Around} {E : Value → Shared → Prop} {s : Shared} {v : Value} {o : Obj} {H : Heap → Prop} {Q : Value → Shared → Prop} (B : Begins v o H) (h1 : H s.heap)
    (h : ∀ h', IsEnum h' (s.heap.objs.size + 1) s.heap.objs.size 0 .none → h'.get? s.heap.objs.size = some o → (∀ b o, s.heap.get? b = some o → h'.get? b = some o) → Q (.ref (s.heap.objs.size + 1)) { s with heap := h' }) :
    wpAny (model P w) A (call (.type "enumerate") [v]) Q E s := by
  refine callType_new F.called_enumerate (by decide) (F.typeCall_enumerate_1 _) (newCall_en1 _) (fun obj => F.args_object_init_2 obj _) F.entry_enumerate_new (meets_en1 B) ⟨h1, ?_⟩
  have hz : (s.heap.push o).objs.size = s.heap.objs.size + 1 := Heap.size_push ..
  show _ ∧ _
  rw [hz]
  have he := Heap.get?_push_size (s.heap.push o) (o := { cls := .type "enumerate", data := .fields #[.none, .bool false, .ref s.heap.objs.size, rawInt 0, .none, .none] }) rfl
  rw [hz] at he
  exact ⟨⟨_, he, rfl⟩, h _ he (Heap.get?_push_of_some _ (Heap.get?_push_size _ B.free)) fun b o x => Heap.get?_push_of_some _ (Heap.get?_push_of_some _ x)⟩

/-! ### readings -/
/-- xs of data come from D -/
def tI (K : MKx) (D : Env → Option (List PyData × Env)) : TI := fun σ H R => ∃ ρ ds ρ', EnvRel K σ ρ H ∧ D ρ = some (ds, ρ') ∧ ∀ J H', Out K σ ρ H ρ' H' → ItRel K J ds H' → R J H'
/-- a list or a tuple walked -/
def iSeq (K : PySem.W.Frag) (tl : TE) : TI := fun σ H R => tl σ H fun x H1 => ∃ b a vs, x = .ref a ∧ Src K H1 b a vs ∧ R (if b = true then Itl K a else Itt K a) H1
theorem pi_seq {X : Cx} {tg l : Expr} {tl : TE} (hl : PE X l tl) : PI X tg l (iSeq X.K tl) := by
  refine ⟨fun pins s σ H R I h => ?_⟩
  refine thn (hl.run pins s σ H _ I h) fun v s1 ⟨x, H1, I1, r1, b, a, vs, e, hq, q⟩ => ?_
  subst e
  cases r1
  obtain ⟨its, rv, p, hz⟩ := hq.has I1
  cases b with
  | true =>
    refine wpAny_pyIter_list (show s1.heap.IsList a its.toArray from p) ⟨s1.heap.objs.size, [s1.heap.objs.size], _, _, H1, rfl, I1.kept (t' := s1.toks) fun b o e => Heap.get?_push_of_some _ e, turn_list a _, ⟨_, Heap.get?_push_size _ rfl, rfl, rfl⟩, fun b hb => ?_, q⟩
    have e := List.mem_singleton.mp hb
    subst e
    exact I1.fpOk (Nat.le_refl _) I1.fresh
  | false =>
    refine wpAny_pyIter_tuple (show s1.heap.IsTuple a its.toArray from p) ⟨s1.heap.objs.size, [s1.heap.objs.size], _, _, H1, rfl, I1.kept (t' := s1.toks) fun b o e => Heap.get?_push_of_some _ e, turn_tuple a _, ⟨_, Heap.get?_push_size _ rfl, rfl, rfl⟩, fun b hb => ?_, q⟩
    have e := List.mem_singleton.mp hb
    subst e
    exact I1.fpOk (Nat.le_refl _) I1.fresh
def iEn (K : PySem.W.Frag) (ta : TA) : TI := fun σ H R => ta σ H fun xs H1 => ∃ b a vs, xs = [.ref a] ∧ Src K H1 b a vs ∧ R (Itn K b a) H1
theorem pi_en {X : Cx} {e : Expr} {ta : TA} {p pos tpos : Pos} {elts : List Expr} {kk : Nat} (hg : Gl X "enumerate") (hm : X.mg "enumerate" = none) (ha : PA X [e] ta) (hs : starEach [e] X.env = (false, eval e X.env) :: starEach [] X.env) :
    PI X (.Tuple elts kk tpos) (.Call (.Name "enumerate" p) [e] [] pos) (iEn X.K ta) := by
  refine ⟨fun pins s σ H R I h => ?_⟩
  refine Call_ (ld_blt I hg hm boot_enumerate (PyProof.Rows.callWith_type1 (thn (ha.run pos pins s σ H _ I h) fun us s1 ⟨xs, H1, I1, r1, b, a, vs, ex, hq, q⟩ => ?_) hs rfl))
  subst ex
  rw [Vals.ref1 r1]
  obtain ⟨its, rv, p', hz⟩ := hq.has I1
  refine en1_begins (src_begins b a its.toArray) p' fun h' he hi hk => wpAny_pyIter_enum he ?_
  have I2 : Inv X pins σ H1 { s1 with heap := h' } := I1.kept (t' := s1.toks) hk
  have hlt := p'.lt
  refine ⟨s1.heap.objs.size + 1, [s1.heap.objs.size + 1, s1.heap.objs.size], _, _, H1, rfl, I2, turn_itn (Nat.succ_ne_self _) (Nat.ne_of_lt (Nat.lt_succ_of_lt hlt)) (Nat.ne_of_lt hlt), ⟨⟨.none, he⟩, SrcIt.new hi⟩, fun c hc => ?_, q⟩
  have hle : s1.heap.objs.size ≤ c := by
    rcases List.mem_cons.mp hc with z | z
    · rw [z]
      exact Nat.le_succ _
    · rw [List.mem_singleton.mp z]
      exact Nat.le_refl _
  exact I1.fpOk hle (I1.hok.fresh hle)
def iZz (K : PySem.W.Frag) (ta : TA) : TI := fun σ H R => ta σ H fun xs H1 => ∃ b1 b2 a1 a2 vs ws, xs = [.ref a1, .ref a2] ∧ Src K H1 b1 a1 vs ∧ Src K H1 b2 a2 ws ∧ R (Itzz K b1 b2 a1 a2) H1
theorem zz_fresh {X : Cx} {pins : List (Addr × Obj)} {σ : L2.St} {H : Hp} {s : Shared} {n : Nat} (I : Inv X pins σ H s) {c : Addr} (hc : c ∈ [s.heap.objs.size + 4, s.heap.objs.size + 2, s.heap.objs.size + 3, s.heap.objs.size, s.heap.objs.size + 1]) : FpOk X pins H c := by
  have hle : s.heap.objs.size ≤ c := by
    simp only [List.mem_cons, List.not_mem_nil, or_false] at hc
    rcases hc with z | z | z | z | z <;> rw [z] <;> first | exact Nat.le_refl _ | exact Nat.le_add_right _ _
  exact I.fpOk hle (I.hok.fresh hle)
theorem pi_zz {X : Cx} {e e2 : Expr} {ta : TA} {p pos tpos : Pos} {elts : List Expr} {kk : Nat} (hg : Gl X "zip") (hm : X.mg "zip" = none) (ha : PA X [e, e2] ta) (hs : starEach [e, e2] X.env = (false, eval e X.env) :: starEach [e2] X.env) (hpl : (backTo pos (starEach [e2] X.env)).any (·.1) = false) :
    PI X (.Tuple elts kk tpos) (.Call (.Name "zip" p) [e, e2] [] pos) (iZz X.K ta) := by
  refine ⟨fun pins s σ H R I h => ?_⟩
  refine Call_ (ld_blt I hg hm PyProof.Rows.boot_zip (PyProof.Rows.callWith_type1 (thn (ha.run pos pins s σ H _ I h) fun us s1 ⟨xs, H1, I1, r1, b1, b2, a1, a2, vs, ws, ex, hq, hq2, q⟩ => ?_) hs hpl))
  subst ex
  obtain ⟨u, u2, rfl, r, r'⟩ := vals2 r1
  cases r
  cases r'
  obtain ⟨its, rv, p1, _⟩ := hq.has I1
  obtain ⟨its2, rv2, p2, _⟩ := hq2.has I1
  have l1 := p1.lt
  have l2 := p2.lt
  refine zip_begins2 (src_begins b1 a1 its.toArray) (src_begins b2 a2 its2.toArray) p1 p2 fun h' hz hTI hTO h1 h2 hsz hk => wpAny_pyIter_zip hz ?_
  have I2 : Inv X pins σ H1 { s1 with heap := h' } := I1.kept (t' := s1.toks) hk
  refine ⟨s1.heap.objs.size + 4, [s1.heap.objs.size + 4, s1.heap.objs.size + 2, s1.heap.objs.size + 3, s1.heap.objs.size, s1.heap.objs.size + 1], _, _, H1, rfl, I2, turn_itzz (zip_sep2 (fun b hb => ?_) fun b hb => ?_) (Nat.ne_of_lt l1) (Nat.ne_of_lt (Nat.lt_succ_of_lt l2)), ⟨hz, hTI, ⟨_, _, hTO⟩, SrcIt.new h1, SrcIt.new h2⟩, fun c hc => zz_fresh (n := 0) I1 hc, q⟩
  · rw [List.mem_singleton.mp hb]
    exact l1
  · rw [List.mem_singleton.mp hb]
    exact l2
/-- what these yield -/
theorem enumL_get {ds : List PyData} {i : Nat} : (enumL ds)[i]? = (ds[i]?).map fun d => .tuple [.int (i : Nat), d] := by
  unfold enumL
  rw [List.getElem?_map, List.getElem?_zipIdx]
  cases ds[i]? with
  | none => rfl
  | some d => simp
theorem Src.repd {K : MKx} {H : Hp} {b : Bool} {a : Addr} {vs : List V} {ds : List PyData} (h : SrcF K H b a vs) (r : RepAll K H vs ds) (H1 : Hp) (e : Ext H H1) : Src K H1 b a vs ∧ RepAll K H1 vs ds := ⟨(h.ext e).src, r.ext e⟩
theorem it_en {K : MKx} {H : Hp} {b : Bool} {a : Addr} {vs : List V} {ds : List PyData} (h : SrcF K H b a vs) (r : RepAll K H vs ds) : ItRel K (Itn K b a) (enumL ds) H := fun H1 e => by
  obtain ⟨h1, r1⟩ := Src.repd h r H1 e
  have hl : (enumL ds).length = ds.length := by
    unfold enumL
    rw [List.length_map, List.length_zipIdx]
  refine ⟨fun i d hd => ?_, fun i x H2 _ y => ?_, vs, h1, by rw [hl, r.length]⟩
  · rw [enumL_get] at hd
    obtain ⟨d', hd', _⟩ := Option.map_eq_some_iff.mp hd
    obtain ⟨x, hx, _⟩ := r1.get hd'
    exact ⟨vs, x, h1, hx⟩
  · obtain ⟨T, y', rfl, hn, rfl, y⟩ := y
    obtain ⟨d, hd, hr⟩ := r1.get' (y vs h1)
    exact ⟨kept_upd hn, .tuple [.int (i : Nat), d], by rw [enumL_get, hd]; rfl, .tup (.of upd_same) (.cons (.int _) (.cons (hr.ext (Ext.upd hn)) .nil))⟩
theorem it_zz {K : MKx} {H : Hp} {b1 b2 : Bool} {a1 a2 : Addr} {vs ws : List V} {ds es : List PyData} (h : SrcF K H b1 a1 vs) (r : RepAll K H vs ds) (h2 : SrcF K H b2 a2 ws) (r2 : RepAll K H ws es) :
    ItRel K (Itzz K b1 b2 a1 a2) ((ds.zip es).map fun p => .tuple [p.1, p.2]) H := fun H1 e => by
  obtain ⟨h1, r1⟩ := Src.repd h r H1 e
  obtain ⟨h3, r3⟩ := Src.repd h2 r2 H1 e
  refine ⟨fun i d hd => ?_, fun i x H2 _ y => ?_, vs, ws, h1, h3, by rw [List.length_map, List.length_zip, r.length, r2.length]⟩
  · rw [List.getElem?_map] at hd
    obtain ⟨⟨d1, d2⟩, hd', _⟩ := Option.map_eq_some_iff.mp hd
    obtain ⟨g1, g2⟩ := List.getElem?_zip_eq_some.mp hd'
    obtain ⟨x, hx, _⟩ := r1.get g1
    obtain ⟨y, hy, _⟩ := r3.get g2
    exact ⟨vs, ws, x, y, h1, h3, hx, hy⟩
  · obtain ⟨T, x', y', rfl, hn, rfl, yx, yy⟩ := y
    obtain ⟨d, hd, hr⟩ := r1.get' (yx vs h1)
    obtain ⟨d', hd', hr'⟩ := r3.get' (yy ws h3)
    refine ⟨kept_upd hn, .tuple [d, d'], ?_, .tup (.of upd_same) (.cons (hr.ext (Ext.upd hn)) (.cons (hr'.ext (Ext.upd hn)) .nil))⟩
    rw [List.getElem?_map, (List.getElem?_zip_eq_some (z := (d, d'))).mpr ⟨hd, hd'⟩]
    rfl
end MP

/-! MP: zip of rows that must be of one length. -/
namespace MP
open PySem PySem.Spec PyProof.Rows L2
abbrev IsZipS (h : Heap) (z TI TO : Addr) (f0 : Value) : Prop := h.get? z = some { cls := .type "zip", dict := none, data := .fields #[f0, .bool false, .bool true, .ref TI, .ref TO], slots := #[] }
section
variable {prog : Program} {w : World} {A : Around} {E : Value → Shared → Prop} {s : Shared}
theorem noe_item {it : Addr} {fp : List Addr} {n i : Nat} {P : Nat → Value → Prop} {St : Nat → Heap → Prop} {Q : Option Value → Shared → Prop} (D : Draws prog w A it fp n P St) (hi : i < n) (st : St i s.heap)
    (k : ∀ x h' tk, P i x → St (i + 1) h' → Heap.SameBut it s.heap h' → Q (some x) { s with heap := h', toks := tk }) : wpAny (model prog w) A (Builtin.SmallTypes.nextOrEnd (.ref it)) Q E s := by
  unfold Builtin.SmallTypes.nextOrEnd
  exact wpAny_bind (wpAny_attempt (D.item i s _ _ hi st fun x h' tk a b c => wpAny_pure (k x h' tk a b c)))
theorem noe_end {it : Addr} {fp : List Addr} {n : Nat} {P : Nat → Value → Prop} {St : Nat → Heap → Prop} {Q : Option Value → Shared → Prop} (D : Draws prog w A it fp n P St) (st : St n s.heap)
    (k : ∀ h', Heap.ExtBut it s.heap h' → Q none { s with heap := h' }) : wpAny (model prog w) A (Builtin.SmallTypes.nextOrEnd (.ref it)) Q E s := by
  unfold Builtin.SmallTypes.nextOrEnd
  refine wpAny_bind (wpAny_attempt (D.done s _ _ st fun h' e x y => ?_))
  obtain ⟨o, ho, hc⟩ := y; exact wpAny_bind (wpAny_isInstance (T := "StopIteration") (b := true) ⟨o, ho, hc⟩ isSubtype_stop (wpAny_pure (k h' x)))
theorem stop_raise {α : Type} {Q : α → Shared → Prop} (hh : A.handled = none) (k : ∀ h' e, (∀ b o, s.heap.get? b = some o → h'.get? b = some o) → (∃ o, h'.get? e = some o ∧ o.cls = .type "StopIteration") → E (.ref e) { s with heap := h' }) :
    wpAny (model prog w) A (Builtin.SmallTypes.stopIteration : Sem α) Q E s := by
  unfold Builtin.SmallTypes.stopIteration
  refine wpAny_bind ?_; simp only [newExc, newTuple]; refine wpAny_bind (wpAny_newObj_type ?_ (by size_fits))
  refine wpAny_bind (m := firstArgMember _ _) (wpAny_of_eq (a := Value.none) (by first | rfl | (simp only [firstArgMember]; rfl)) ?_); refine wpAny_newObj_type ?_ (by size_fits)
  refine wpAny_raiseNew_none hh ?_
  exact k _ _ (fun b o e => Heap.get?_push_of_some _ (Heap.get?_push_of_some _ e)) ⟨_, Heap.get?_push_size _ rfl, rfl⟩
theorem iter_zipS {z TI TO : Addr} {f0 : Value} {Q : Value → Shared → Prop} (hz : IsZipS s.heap z TI TO f0) (h : Q (.ref z) s) : wpAny (model prog w) A (pyIter (.ref z)) Q E s := by
  have tz : s.TypeIs (.ref z) "zip" := ⟨_, hz, rfl⟩
  refine wpAny_pyIter_slot tz F.slot_zip_iter (wpAny_call_entry F.slot_zip_iter tz F.entry_zip_iter ?_ (F.args_zip_iter_1 _)); show wpAny _ _ (ret (.ref z)) _ _ s
  exact wpAny_pure ⟨_, rfl, "zip", _, tz, F.slot_zip_next.lookup, h⟩
theorem go_zipS {elts : List Expr} {x1} {pos : Pos} {z TI TO T : Addr} {Q : Unit → Shared → Prop} (hz : IsZipS s.heap z TI TO (rawInt T)) (hQ : ∀ h', IsZipS h' z TI TO .none → Heap.SameBut z s.heap h' → Q () { s with heap := h' }) :
    wpAny (model prog w) A (letOwnedTupleGo (.Tuple elts x1 pos) (.ref z) (.ref T)) Q E s := by
  unfold letOwnedTupleGo; refine wpAny_bind (wpAny_load hz ?_)
  show wpAny _ _ (if (["enumerate", "zip", "dict_itemiterator", "dict_reverseitemiterator", "odict_iterator", "itertools.zip_longest", "itertools.pairwise"].contains "zip" && (#[rawInt T, .bool false, .bool true, .ref TI, .ref TO] : Array Value)[0]? == some (rawInt T)) = true then _ else _) Q E s
  rw [if_pos (by simp)]; refine wpAny_bind (wpAny_rule ?_); show wpAny _ _ (setField (.ref z) 0 .none) Q E s
  exact wpAny_setField_rec hz (by simp) fun h' hz' hs' => hQ h' hz' hs'

theorem zipS2_item {z TI TO i1 i2 : Addr} {fp1 fp2 : List Addr} {n1 n2 i : Nat} {P1 P2 : Nat → Value → Prop} {St1 St2 : Nat → Heap → Prop} {a1 a2 : Value} {Q : Value → Shared → Prop} (S : ZipSep2 z TI TO i1 i2 fp1 fp2) (D1 : Draws prog w A i1 fp1 n1 P1 St1) (D2 : Draws prog w A i2 fp2 n2 P2 St2)
    (hz : IsZipS s.heap z TI TO .none) (hTI : IsTupOf2 s.heap TI (.ref i1) (.ref i2)) (hTO : IsTupOf2 s.heap TO a1 a2) (st1 : St1 i s.heap) (st2 : St2 i s.heap) (l1 : i < n1) (l2 : i < n2)
    (hQ : ∀ x1 x2 h' tk, P1 i x1 → P2 i x2 → IsZipS h' z TI TO (rawInt s.heap.objs.size) → IsTupOf2 h' TO x1 x2 → St1 (i + 1) h' → St2 (i + 1) h' → IsTupOf2 h' s.heap.objs.size x1 x2 → h'.objs.size = s.heap.objs.size + 1 → (∀ c o, c ≠ z → c ≠ TO → c ≠ i1 → c ≠ i2 → s.heap.get? c = some o → h'.get? c = some o) → Q (.ref s.heap.objs.size) { s with heap := h', toks := tk }) :
    wpAny (model prog w) A (Builtin.«zip.__next__» ⟨[.ref z], []⟩) (fun fin s' => ∃ v, fin = .done (.ret v) ∧ Q v s') E s := by
  obtain ⟨hp, g, d, tk0, os⟩ := s
  show wpAny _ _ (field (.ref z) 2 >>= _) _ _ _; refine wpAny_bind (wpAny_field hz rfl (x := .bool true) rfl ?_); show wpAny _ _ (field (.ref z) 3 >>= _) _ _ _
  refine wpAny_bind (wpAny_field hz rfl (x := .ref TI) rfl ?_); refine wpAny_bind (wpAny_seqItems hTI rfl ?_)
  show wpAny _ _ (Builtin.SmallTypes.ownedTupleIsFree (.ref z) >>= _) _ _ _; refine wpAny_bind ?_
  unfold Builtin.SmallTypes.ownedTupleIsFree; refine wpAny_bind (wpAny_field hz rfl (x := .none) rfl (wpAny_pure ?_)); simp only [if_true]
  refine wpAny_bind (wpAny_rule ?_); refine wpAny_bind (wpAny_field hz rfl (x := .ref TO) rfl ?_); refine wpAny_bind (wpAny_setField_rec hz (by simp) fun g0 hz0 hs0 => ?_)
  replace hz0 : IsZipS g0 z TI TO .ellipsis := hz0; replace hs0 : Heap.SameBut z hp g0 := hs0
  refine wpAny_bind ?_; simp only [List.zipIdx_cons, List.zipIdx_nil, List.forIn_cons, List.forIn_nil]
  refine wpAny_bind (wpAny_bind (wpAny_onRaise ?_)); show wpAny _ _ (Builtin.SmallTypes.nextOrEnd (.ref i1)) _ _ ⟨g0, g, d, tk0, os⟩
  refine noe_item D1 l1 (D1.over st1 hs0 S.zf1) fun x1 p1 tk1 hx1 sn1 hp1 => ?_
  replace hp1 : Heap.SameBut i1 g0 p1 := hp1; have hU1 : IsTupOf2 p1 TO a1 a2 := hp1.extBut _ _ S.Ti1 (hs0.extBut _ _ S.TOz hTO)
  refine wpAny_bind (wpAny_seqItems (s := ⟨p1, g, d, tk1, os⟩) hU1 rfl ?_); refine wpAny_bind (updateSeq_IsTupOf2 (s := ⟨p1, g, d, tk1, os⟩) hU1 fun g1 hT1 hs1 => ?_)
  replace hT1 : IsTupOf2 g1 TO x1 a2 := hT1; replace hs1 : Heap.SameBut TO p1 g1 := hs1
  refine wpAny_bind (wpAny_letGo (wpAny_pure ?_))
  refine wpAny_bind (wpAny_bind (wpAny_onRaise ?_)); show wpAny _ _ (Builtin.SmallTypes.nextOrEnd (.ref i2)) _ _ ⟨g1, g, d, tk1, os⟩
  refine noe_item D2 l2 (D2.over (D2.over (D2.over st2 hs0 S.zf2) hp1 S.sep1_2) hs1 S.Tf2) fun x2 p2 tk2 hx2 sn2 hp2 => ?_
  replace hp2 : Heap.SameBut i2 g1 p2 := hp2; have hU2 : IsTupOf2 p2 TO x1 a2 := hp2.extBut _ _ S.Ti2 hT1
  refine wpAny_bind (wpAny_seqItems (s := ⟨p2, g, d, tk2, os⟩) hU2 rfl ?_); refine wpAny_bind (updateSeq_IsTupOf2 (s := ⟨p2, g, d, tk2, os⟩) hU2 fun g2 hT2 hs2 => ?_)
  replace hT2 : IsTupOf2 g2 TO x1 x2 := hT2; replace hs2 : Heap.SameBut TO p2 g2 := hs2
  refine wpAny_bind (wpAny_letGo (wpAny_pure (wpAny_pure ?_)))
  refine wpAny_bind (wpAny_seqItems (s := ⟨g2, g, d, tk2, os⟩) hT2 rfl ?_); refine wpAny_bind (wpAny_newTuple ?_)
  have hsz : g2.objs.size = hp.objs.size := by rw [hs2.1, hp2.1, hs1.1, hp1.1, hs0.1]
  have hzz : IsZipS g2 z TI TO .ellipsis := (hs2.extBut _ _ S.TOz.symm (hp2.extBut _ _ S.zi2 (hs1.extBut _ _ S.TOz.symm (hp1.extBut _ _ S.zi1 hz0))))
  have hkk : ∀ c o, c ≠ z → c ≠ TO → c ≠ i1 → c ≠ i2 → hp.get? c = some o → g2.get? c = some o := fun c o cz cT c1 c2 e => (hs2.extBut _ _ cT (hp2.extBut _ _ c2 (hs1.extBut _ _ cT (hp1.extBut _ _ c1 (hs0.extBut _ _ cz e)))))
  have hj1 : St1 (i + 1) g2 := (D1.over (D1.over (D1.over sn1 hs1 S.Tf1) hp2 S.sep2_1) hs2 S.Tf1)
  have hj2 : St2 (i + 1) g2 := (D2.over sn2 hs2 S.Tf2)
  have hzlt : z < g2.objs.size := Heap.lt_size hzz
  show wpAny _ _ (Builtin.SmallTypes.ownedTupleHandOut (.ref z) (.ref g2.objs.size) >>= _) _ _ ⟨g2.push { cls := .type "tuple", data := .seq #[x1, x2] }, g, d, tk2, os⟩
  refine wpAny_bind ?_; unfold Builtin.SmallTypes.ownedTupleHandOut
  have hz6 : IsZipS (g2.push { cls := .type "tuple", data := .seq #[x1, x2] }) z TI TO .ellipsis := Heap.get?_push_of_some _ hzz
  refine wpAny_bind (wpAny_setField_rec hz6 (by simp) fun h7 hz7 hs7 => ?_); replace hz7 : IsZipS h7 z TI TO (rawInt g2.objs.size) := hz7
  refine wpAny_setField_rec hz7 (by simp) fun h8 hz8 hs8 => ?_; replace hz8 : IsZipS h8 z TI TO (rawInt g2.objs.size) := hz8
  replace hs7 : Heap.SameBut z (g2.push { cls := .type "tuple", data := .seq #[x1, x2] }) h7 := hs7; replace hs8 : Heap.SameBut z h7 h8 := hs8
  have up : ∀ c o, c ≠ z → g2.get? c = some o → h8.get? c = some o := fun c o c1 e => hs8.extBut _ _ c1 (hs7.extBut _ _ c1 (Heap.get?_push_of_some _ e))
  have hT8 : IsTupOf2 h8 g2.objs.size x1 x2 := hs8.extBut _ _ (Nat.ne_of_gt hzlt) (hs7.extBut _ _ (Nat.ne_of_gt hzlt) (Heap.get?_push_size _ rfl))
  have hn8 : h8.objs.size = g2.objs.size + 1 := by rw [hs8.1, hs7.1, Heap.size_push]
  rw [hsz] at hz8 hT8 hn8; refine wpAny_pure ⟨_, rfl, ?_⟩; show Q (.ref g2.objs.size) ⟨h8, g, d, tk2, os⟩; rw [hsz]
  exact hQ x1 x2 h8 tk2 hx1 hx2 hz8 (up _ _ S.TOz hT2) (D1.frame _ _ _ hj1 fun b hb o e => up b o (fun q => S.zf1 (q ▸ hb)) e) (D2.frame _ _ _ hj2 fun b hb o e => up b o (fun q => S.zf2 (q ▸ hb)) e) hT8 hn8 fun c o cz cT c1 c2 e => up c o cz (hkk c o cz cT c1 c2 e)

theorem zipS2_end {z TI TO i1 i2 : Addr} {fp1 fp2 : List Addr} {i : Nat} {P1 P2 : Nat → Value → Prop} {St1 St2 : Nat → Heap → Prop} {a1 a2 : Value} {Q : Fin → Shared → Prop} (hh : A.handled = none) (S : ZipSep2 z TI TO i1 i2 fp1 fp2) (D1 : Draws prog w A i1 fp1 i P1 St1) (D2 : Draws prog w A i2 fp2 i P2 St2)
    (hz : IsZipS s.heap z TI TO .none) (hTI : IsTupOf2 s.heap TI (.ref i1) (.ref i2)) (hTO : IsTupOf2 s.heap TO a1 a2) (st1 : St1 i s.heap) (st2 : St2 i s.heap)
    (hE : ∀ h' tk e, (∀ c o, c ≠ z → c ≠ TO → c ≠ i1 → c ≠ i2 → s.heap.get? c = some o → h'.get? c = some o) → (∃ o, h'.get? e = some o ∧ o.cls = .type "StopIteration") → E (.ref e) { s with heap := h', toks := tk }) :
    wpAny (model prog w) A (Builtin.«zip.__next__» ⟨[.ref z], []⟩) Q E s := by
  obtain ⟨hp, g, d, tk0, os⟩ := s
  show wpAny _ _ (field (.ref z) 2 >>= _) _ _ _; refine wpAny_bind (wpAny_field hz rfl (x := .bool true) rfl ?_); show wpAny _ _ (field (.ref z) 3 >>= _) _ _ _
  refine wpAny_bind (wpAny_field hz rfl (x := .ref TI) rfl ?_); refine wpAny_bind (wpAny_seqItems hTI rfl ?_)
  show wpAny _ _ (Builtin.SmallTypes.ownedTupleIsFree (.ref z) >>= _) _ _ _; refine wpAny_bind ?_
  unfold Builtin.SmallTypes.ownedTupleIsFree; refine wpAny_bind (wpAny_field hz rfl (x := .none) rfl (wpAny_pure ?_)); simp only [if_true]
  refine wpAny_bind (wpAny_rule ?_); refine wpAny_bind (wpAny_field hz rfl (x := .ref TO) rfl ?_); refine wpAny_bind (wpAny_setField_rec hz (by simp) fun g0 hz0 hs0 => ?_)
  replace hz0 : IsZipS g0 z TI TO .ellipsis := hz0; replace hs0 : Heap.SameBut z hp g0 := hs0
  refine wpAny_bind ?_; simp only [List.zipIdx_cons, List.zipIdx_nil, List.forIn_cons, List.forIn_nil]
  refine wpAny_bind (wpAny_bind (wpAny_onRaise ?_)); show wpAny _ _ (Builtin.SmallTypes.nextOrEnd (.ref i1)) _ _ ⟨g0, g, d, tk0, os⟩
  refine noe_end D1 (D1.over st1 hs0 S.zf1) fun q1 e1 => ?_
  replace e1 : Heap.ExtBut i1 g0 q1 := e1; have zq1 : IsZipS q1 z TI TO .ellipsis := e1 _ _ S.zi1 hz0
  refine wpAny_bind (wpAny_setField_rec (s := ⟨q1, g, d, tk0, os⟩) zq1 (by simp) fun r1 zr1 f1 => ?_); replace f1 : Heap.SameBut z q1 r1 := f1
  refine wpAny_bind ?_; show wpAny _ _ (forIn [(Value.ref i2, 1)] _ _ >>= _) _ _ _
  refine wpAny_bind ?_; simp only [List.forIn_cons, List.forIn_nil]
  refine wpAny_bind ?_; show wpAny _ _ (Builtin.SmallTypes.nextOrEnd (.ref i2) >>= _) _ _ ⟨r1, g, d, tk0, os⟩
  refine wpAny_bind (noe_end D2 (D2.frame _ _ _ (D2.over st2 hs0 S.zf2) fun b hb o x => f1.extBut _ _ (fun q => S.zf2 (q ▸ hb)) (e1 _ _ (fun q => S.sep1_2 (q ▸ hb)) x)) fun q2 e2 => wpAny_pure ?_); replace e2 : Heap.ExtBut i2 r1 q2 := e2
  refine wpAny_pure ?_; refine wpAny_bind (wpAny_rule ?_)
  refine stop_raise hh fun h4 e y1 y2 => ?_
  exact hE h4 tk0 e (fun c o cz cT c1 c2 x => y1 _ _ (e2 _ _ c2 (f1.extBut _ _ cz (e1 _ _ c1 (hs0.extBut _ _ cz x))))) y2

theorem walk_zipS2 {z TI TO i1 i2 : Addr} {fp1 fp2 : List Addr} {n : Nat} {P1 P2 : Nat → Value → Prop} {St1 St2 : Nat → Heap → Prop} (S : ZipSep2 z TI TO i1 i2 fp1 fp2) (hh : A.in1.handled = none) (D1 : Draws prog w A.in1 i1 fp1 n P1 St1) (D2 : Draws prog w A.in1 i2 fp2 n P2 St2) :
    WalksT prog w A z (z :: TI :: TO :: (fp1 ++ fp2)) [z, TO, i1, i2] n (fun i vals => ∃ x1 x2, P1 i x1 ∧ P2 i x2 ∧ vals = #[x1, x2])
      (fun i h => IsZipS h z TI TO .none ∧ IsTupOf2 h TI (.ref i1) (.ref i2) ∧ (∃ a1 a2, IsTupOf2 h TO a1 a2) ∧ St1 i h ∧ St2 i h)
      (fun i T h => IsZipS h z TI TO (rawInt T) ∧ IsTupOf2 h TI (.ref i1) (.ref i2) ∧ (∃ a1 a2, IsTupOf2 h TO a1 a2) ∧ St1 (i + 1) h ∧ St2 (i + 1) h ∧ T ≠ z ∧ T ≠ TO ∧ T ≠ i1 ∧ T ≠ i2) where
  sub := fun c hc => by
    rcases (by simpa using hc : c = z ∨ c = TO ∨ c = i1 ∨ c = i2) with rfl | rfl | rfl | rfl
    · exact List.mem_cons_self ..
    · exact List.mem_cons_of_mem _ (List.mem_cons_of_mem _ (List.mem_cons_self ..))
    · exact (List.mem_cons_of_mem _ (List.mem_cons_of_mem _ (List.mem_cons_of_mem _ (List.mem_append_left _ S.mem1))))
    · exact (List.mem_cons_of_mem _ (List.mem_cons_of_mem _ (List.mem_cons_of_mem _ (List.mem_append_right _ S.mem2))))
  frame := fun i h h' hst hk => by
    obtain ⟨hz, hTI, ⟨a1, a2, hTO⟩, st1, st2⟩ := hst; exact ⟨hk z (List.mem_cons_self ..) _ hz, hk TI (List.mem_cons_of_mem _ (List.mem_cons_self ..)) _ hTI, ⟨a1, a2, hk TO (List.mem_cons_of_mem _ (List.mem_cons_of_mem _ (List.mem_cons_self ..))) _ hTO⟩, D1.frame _ _ _ st1 fun b hb o e => hk b (List.mem_cons_of_mem _ (List.mem_cons_of_mem _ (List.mem_cons_of_mem _ (List.mem_append_left _ hb)))) o e, D2.frame _ _ _ st2 fun b hb o e => hk b (List.mem_cons_of_mem _ (List.mem_cons_of_mem _ (List.mem_cons_of_mem _ (List.mem_append_right _ hb)))) o e⟩
  item := fun i s Q E hi hst hQ => by
    obtain ⟨hz, hTI, ⟨a1, a2, hTO⟩, st1, st2⟩ := hst
    have hT : s.TypeIs (.ref z) "zip" := ⟨_, hz, rfl⟩
    unfold pyNext
    refine wpAny_bind (wpAny_attempt (wpAny_callSpecial?_slot (name := Str.ofString "__next__") hT F.slot_zip_next (wpAny_call_entry F.slot_zip_next hT F.entry_zip_next (zipS2_item S D1 D2 hz hTI hTO st1 st2 hi hi fun x1 x2 h' tk y1 y2 b1 b2 d1 d2 b5 b6 hk => wpAny_pure ?_) (F.args_zip_next_1 _))))
    have lt : ∀ {c o}, s.heap.get? c = some o → s.heap.objs.size ≠ c := fun e => Nat.ne_of_gt (Heap.lt_size e)
    have m1 : s.heap.objs.size ≠ i1 := (D1.live _ _ st1).elim fun _ e => lt e
    have m2 : s.heap.objs.size ≠ i2 := (D2.live _ _ st2).elim fun _ e => lt e
    exact hQ s.heap.objs.size #[x1, x2] h' tk ⟨x1, x2, y1, y2, rfl⟩ (Nat.le_refl _) ⟨_, b5, rfl, _, rfl⟩ ⟨b1, hk _ _ S.TIz S.TITO S.TIi1 S.TIi2 hTI, ⟨_, _, b2⟩, d1, d2, lt hz, lt hTO, m1, m2⟩ fun c o hc e => hk c o (fun x => hc (by simp [x])) (fun x => hc (by simp [x])) (fun x => hc (by simp [x])) (fun x => hc (by simp [x])) e
  go := fun elts k pos i T s Q E hm hQ => by
    obtain ⟨hz, hTI, ⟨a1, a2, hTO⟩, st1, st2, _⟩ := hm; exact go_zipS hz fun h' hz' hs' => hQ h' ⟨hz', hs'.extBut _ _ S.TIz hTI, ⟨a1, a2, hs'.extBut _ _ S.TOz hTO⟩, D1.over st1 hs' S.zf1, D2.over st2 hs' S.zf2⟩ fun c o hc e => hs'.extBut _ _ (fun x => hc (by simp [x])) e
  apart := fun i T h hm hT => by
    obtain ⟨_, _, _, _, _, tz, tT, t1, t2⟩ := hm; rcases (by simpa using hT : T = z ∨ T = TO ∨ T = i1 ∨ T = i2) with e | e | e | e
    · exact tz e
    · exact tT e
    · exact t1 e
    · exact t2 e
  done := fun s Q E hst hQ => by
    obtain ⟨hz, hTI, ⟨a1, a2, hTO⟩, st1, st2⟩ := hst
    have hT : s.TypeIs (.ref z) "zip" := ⟨_, hz, rfl⟩
    unfold pyNext
    refine wpAny_bind (wpAny_attempt (wpAny_callSpecial?_slot (name := Str.ofString "__next__") hT F.slot_zip_next (wpAny_call_entry F.slot_zip_next hT F.entry_zip_next (zipS2_end hh S D1 D2 hz hTI hTO st1 st2 fun h' tk e hk he => ?_) (F.args_zip_next_1 _))))
    obtain ⟨o, ho, hc⟩ := he
    refine wpAny_bind (wpAny_isInstance (T := "StopIteration") (b := true) ⟨o, ho, hc⟩ isSubtype_stop ?_); exact wpAny_pure (hQ _ _ fun c o hc e => hk c o (fun x => hc (by simp [x])) (fun x => hc (by simp [x])) (fun x => hc (by simp [x])) (fun x => hc (by simp [x])) e)
  self := fun i s Q E hst hQ => iter_zipS hst.1 hQ
theorem goes_zipS2 {elts : List Expr} {kk : Nat} {pos : Pos} {z TI TO i1 i2 : Addr} {fp1 fp2 : List Addr} {n : Nat} {P1 P2 : Nat → Value → Prop} {St1 St2 : Nat → Heap → Prop} (S : ZipSep2 z TI TO i1 i2 fp1 fp2) (hh : A.in1.handled = none) (D1 : Draws prog w A.in1 i1 fp1 n P1 St1) (D2 : Draws prog w A.in1 i2 fp2 n P2 St2) :
    GoesN prog w A (.Tuple elts kk pos) z (z :: TI :: TO :: (fp1 ++ fp2)) [z, TO, i1, i2] n (fun i hₒ v h => ∃ T x1 x2, v = .ref T ∧ hₒ.objs.size ≤ T ∧ P1 i x1 ∧ P2 i x2 ∧ h.IsTuple T #[x1, x2])
      (fun i h => IsZipS h z TI TO .none ∧ IsTupOf2 h TI (.ref i1) (.ref i2) ∧ (∃ a1 a2, IsTupOf2 h TO a1 a2) ∧ St1 i h ∧ St2 i h) :=
  (GoesN.ofWalksT (walk_zipS2 S hh D1 D2)).mono fun i hₒ v h _ ⟨T, vals, ev, hn, ⟨x1, x2, h1, h2, evs⟩, hT⟩ => ⟨T, x1, x2, ev, hn, h1, h2, evs ▸ hT⟩

theorem typeCall_zipS2 (a b t : Value) : checkTypeCall "zip" ⟨[a, b], [(Str.ofString "strict", t)]⟩ = pure () := by kernel_rfl
theorem newCall_zipS2 (a b t : Value) : checkBuiltinCall "zip.__new__" ⟨[.type "zip", a, b], [(Str.ofString "strict", t)]⟩ = pure () := by kernel_rfl
theorem init_zipS2 (obj a b t : Value) : argsOk "object.__init__" ⟨[obj, a, b], [(Str.ofString "strict", t)]⟩ := by unfold argsOk; kernel_rfl
abbrev zsT2 (h : Heap) (o1 o2 : Obj) : Heap := ((h.push o1).push o2).push { cls := .type "tuple", data := .seq #[.ref h.objs.size, .ref (h.push o1).objs.size] }
abbrev zsO2 (h : Heap) (o1 o2 : Obj) : Heap := (zsT2 h o1 o2).push { cls := .type "tuple", data := .seq #[.none, .none] }
abbrev zsZ2 (h : Heap) (o1 o2 : Obj) : Heap := (zsO2 h o1 o2).push { cls := .type "zip", data := .fields #[.none, .bool false, .bool true, .ref ((h.push o1).push o2).objs.size, .ref (zsT2 h o1 o2).objs.size] }
theorem meets_zipS2 {v1 v2 : Value} {o1 o2 : Obj} {H1 H2 : Heap → Prop} (B1 : Begins v1 o1 H1) (B2 : Begins v2 o2 H2) :
    Meets (Builtin.«zip.__new__» ⟨[.type "zip", v1, v2], [(Str.ofString "strict", .bool true)]⟩) (fun _ R s => (H1 s.heap ∧ H2 s.heap) ∧ R (.ok (.ret (.ref (zsO2 s.heap o1 o2).objs.size))) { s with heap := zsZ2 s.heap o1 o2 }) :=
  .of_wp fun prog w A R s h => by
    obtain ⟨hp, g, d, tk, os⟩ := s; obtain ⟨⟨h1, h2⟩, h⟩ := h; have hsub := sub_zip
    have e2 : (Str.ofString "strict" != ("strict" : Str)) = false := by decide +kernel
    have q1 : ∀ {A' : Around} {E Q : Value → Shared → Prop}, Q (.ref hp.objs.size) ⟨(hp.push o1), g, d, tk, os⟩ → wpAny (model prog w) A' (pyIter v1) Q E ⟨hp, g, d, tk, os⟩ := fun q => B1.iter prog w _ _ ⟨hp, g, d, tk, os⟩ _ (B1.keeps _ _ h1 fun b o' e => e) q
    have q2 : ∀ {A' : Around} {E Q : Value → Shared → Prop}, Q (.ref (hp.push o1).objs.size) ⟨((hp.push o1).push o2), g, d, tk, os⟩ → wpAny (model prog w) A' (pyIter v2) Q E ⟨(hp.push o1), g, d, tk, os⟩ := fun q => B2.iter prog w _ _ ⟨(hp.push o1), g, d, tk, os⟩ _ (B2.keeps _ _ h2 fun b o' e => (Heap.get?_push_of_some _ e)) q
    wp_walk using q1, q2
    exact ⟨_, rfl, h⟩
theorem zipS_begins2 {v1 v2 : Value} {o1 o2 : Obj} {H1 H2 : Heap → Prop} {Q : Value → Shared → Prop} (B1 : Begins v1 o1 H1) (B2 : Begins v2 o2 H2) (h1 : H1 s.heap) (h2 : H2 s.heap)
    (h : ∀ h', IsZipS h' (s.heap.objs.size + 4) (s.heap.objs.size + 2) (s.heap.objs.size + 3) .none → IsTupOf2 h' (s.heap.objs.size + 2) (.ref s.heap.objs.size) (.ref (s.heap.objs.size + 1)) → IsTupOf2 h' (s.heap.objs.size + 3) .none .none → h'.get? s.heap.objs.size = some o1 → h'.get? (s.heap.objs.size + 1) = some o2 → h'.objs.size = s.heap.objs.size + 5 →
      (∀ c o, s.heap.get? c = some o → h'.get? c = some o) → Q (.ref (s.heap.objs.size + 4)) { s with heap := h' }) : wpAny (model prog w) A (call (.type "zip") [v1, v2] [(Str.ofString "strict", .bool true)]) Q E s := by
  refine callType_newKw F.called_zip (by decide) (typeCall_zipS2 _ _ _) (newCall_zipS2 _ _ _) (fun obj => init_zipS2 obj _ _ _) F.entry_zip_new (meets_zipS2 B1 B2) ⟨⟨h1, h2⟩, ?_⟩
  have z1 : (s.heap.push o1).objs.size = s.heap.objs.size + 1 := by rw [Heap.size_push]
  have z2 : ((s.heap.push o1).push o2).objs.size = s.heap.objs.size + 2 := by rw [Heap.size_push, z1]
  have zT : (zsT2 s.heap o1 o2).objs.size = s.heap.objs.size + 3 := by rw [Heap.size_push, z2]
  have zO : (zsO2 s.heap o1 o2).objs.size = s.heap.objs.size + 4 := by rw [Heap.size_push, zT]
  have zZ : (zsZ2 s.heap o1 o2).objs.size = s.heap.objs.size + 5 := by rw [Heap.size_push, zO]
  have gZ : (zsZ2 s.heap o1 o2).get? (zsO2 s.heap o1 o2).objs.size = some { cls := .type "zip", data := .fields #[.none, .bool false, .bool true, .ref ((s.heap.push o1).push o2).objs.size, .ref (zsT2 s.heap o1 o2).objs.size] } := Heap.get?_push_size _ rfl
  have gO : (zsZ2 s.heap o1 o2).get? (zsT2 s.heap o1 o2).objs.size = some { cls := .type "tuple", data := .seq #[.none, .none] } := Heap.get?_push_of_some _ (Heap.get?_push_size _ rfl)
  have gT : (zsZ2 s.heap o1 o2).get? ((s.heap.push o1).push o2).objs.size = some { cls := .type "tuple", data := .seq #[.ref s.heap.objs.size, .ref (s.heap.push o1).objs.size] } := Heap.get?_push_of_some _ (Heap.get?_push_of_some _ (Heap.get?_push_size _ rfl))
  have g1 : (zsZ2 s.heap o1 o2).get? s.heap.objs.size = some o1 := Heap.get?_push_of_some _ (Heap.get?_push_of_some _ (Heap.get?_push_of_some _ (Heap.get?_push_of_some _ (Heap.get?_push_size _ B1.free))))
  have g2 : (zsZ2 s.heap o1 o2).get? (s.heap.push o1).objs.size = some o2 := Heap.get?_push_of_some _ (Heap.get?_push_of_some _ (Heap.get?_push_of_some _ (Heap.get?_push_size _ B2.free)))
  rw [zO, zT, z2] at gZ; rw [zT] at gO; rw [z2, z1] at gT
  rw [z1] at g2
  show _ ∧ _; rw [zO]
  exact ⟨⟨_, gZ, rfl⟩, h _ gZ gT gO g1 g2 zZ fun c o e => Heap.get?_push_of_some _ (Heap.get?_push_of_some _ (Heap.get?_push_of_some _ (Heap.get?_push_of_some _ (Heap.get?_push_of_some _ (e)))))⟩

theorem zipS3_item {z TI TO i1 i2 i3 : Addr} {fp1 fp2 fp3 : List Addr} {n1 n2 n3 i : Nat} {P1 P2 P3 : Nat → Value → Prop} {St1 St2 St3 : Nat → Heap → Prop} {a1 a2 a3 : Value} {Q : Value → Shared → Prop} (S : ZipSep3 z TI TO i1 i2 i3 fp1 fp2 fp3) (D1 : Draws prog w A i1 fp1 n1 P1 St1) (D2 : Draws prog w A i2 fp2 n2 P2 St2) (D3 : Draws prog w A i3 fp3 n3 P3 St3)
    (hz : IsZipS s.heap z TI TO .none) (hTI : IsTupOf3 s.heap TI (.ref i1) (.ref i2) (.ref i3)) (hTO : IsTupOf3 s.heap TO a1 a2 a3) (st1 : St1 i s.heap) (st2 : St2 i s.heap) (st3 : St3 i s.heap) (l1 : i < n1) (l2 : i < n2) (l3 : i < n3)
    (hQ : ∀ x1 x2 x3 h' tk, P1 i x1 → P2 i x2 → P3 i x3 → IsZipS h' z TI TO (rawInt s.heap.objs.size) → IsTupOf3 h' TO x1 x2 x3 → St1 (i + 1) h' → St2 (i + 1) h' → St3 (i + 1) h' → IsTupOf3 h' s.heap.objs.size x1 x2 x3 → h'.objs.size = s.heap.objs.size + 1 → (∀ c o, c ≠ z → c ≠ TO → c ≠ i1 → c ≠ i2 → c ≠ i3 → s.heap.get? c = some o → h'.get? c = some o) → Q (.ref s.heap.objs.size) { s with heap := h', toks := tk }) :
    wpAny (model prog w) A (Builtin.«zip.__next__» ⟨[.ref z], []⟩) (fun fin s' => ∃ v, fin = .done (.ret v) ∧ Q v s') E s := by
  obtain ⟨hp, g, d, tk0, os⟩ := s
  show wpAny _ _ (field (.ref z) 2 >>= _) _ _ _; refine wpAny_bind (wpAny_field hz rfl (x := .bool true) rfl ?_); show wpAny _ _ (field (.ref z) 3 >>= _) _ _ _
  refine wpAny_bind (wpAny_field hz rfl (x := .ref TI) rfl ?_); refine wpAny_bind (wpAny_seqItems hTI rfl ?_)
  show wpAny _ _ (Builtin.SmallTypes.ownedTupleIsFree (.ref z) >>= _) _ _ _; refine wpAny_bind ?_
  unfold Builtin.SmallTypes.ownedTupleIsFree; refine wpAny_bind (wpAny_field hz rfl (x := .none) rfl (wpAny_pure ?_)); simp only [if_true]
  refine wpAny_bind (wpAny_rule ?_); refine wpAny_bind (wpAny_field hz rfl (x := .ref TO) rfl ?_); refine wpAny_bind (wpAny_setField_rec hz (by simp) fun g0 hz0 hs0 => ?_)
  replace hz0 : IsZipS g0 z TI TO .ellipsis := hz0; replace hs0 : Heap.SameBut z hp g0 := hs0
  refine wpAny_bind ?_; simp only [List.zipIdx_cons, List.zipIdx_nil, List.forIn_cons, List.forIn_nil]
  refine wpAny_bind (wpAny_bind (wpAny_onRaise ?_)); show wpAny _ _ (Builtin.SmallTypes.nextOrEnd (.ref i1)) _ _ ⟨g0, g, d, tk0, os⟩
  refine noe_item D1 l1 (D1.over st1 hs0 S.zf1) fun x1 p1 tk1 hx1 sn1 hp1 => ?_
  replace hp1 : Heap.SameBut i1 g0 p1 := hp1; have hU1 : IsTupOf3 p1 TO a1 a2 a3 := hp1.extBut _ _ S.Ti1 (hs0.extBut _ _ S.TOz hTO)
  refine wpAny_bind (wpAny_seqItems (s := ⟨p1, g, d, tk1, os⟩) hU1 rfl ?_); refine wpAny_bind (updateSeq_IsTupOf3 (s := ⟨p1, g, d, tk1, os⟩) hU1 fun g1 hT1 hs1 => ?_)
  replace hT1 : IsTupOf3 g1 TO x1 a2 a3 := hT1; replace hs1 : Heap.SameBut TO p1 g1 := hs1
  refine wpAny_bind (wpAny_letGo (wpAny_pure ?_))
  refine wpAny_bind (wpAny_bind (wpAny_onRaise ?_)); show wpAny _ _ (Builtin.SmallTypes.nextOrEnd (.ref i2)) _ _ ⟨g1, g, d, tk1, os⟩
  refine noe_item D2 l2 (D2.over (D2.over (D2.over st2 hs0 S.zf2) hp1 S.sep1_2) hs1 S.Tf2) fun x2 p2 tk2 hx2 sn2 hp2 => ?_
  replace hp2 : Heap.SameBut i2 g1 p2 := hp2; have hU2 : IsTupOf3 p2 TO x1 a2 a3 := hp2.extBut _ _ S.Ti2 hT1
  refine wpAny_bind (wpAny_seqItems (s := ⟨p2, g, d, tk2, os⟩) hU2 rfl ?_); refine wpAny_bind (updateSeq_IsTupOf3 (s := ⟨p2, g, d, tk2, os⟩) hU2 fun g2 hT2 hs2 => ?_)
  replace hT2 : IsTupOf3 g2 TO x1 x2 a3 := hT2; replace hs2 : Heap.SameBut TO p2 g2 := hs2
  refine wpAny_bind (wpAny_letGo (wpAny_pure ?_))
  refine wpAny_bind (wpAny_bind (wpAny_onRaise ?_)); show wpAny _ _ (Builtin.SmallTypes.nextOrEnd (.ref i3)) _ _ ⟨g2, g, d, tk2, os⟩
  refine noe_item D3 l3 (D3.over (D3.over (D3.over (D3.over (D3.over st3 hs0 S.zf3) hp1 S.sep1_3) hs1 S.Tf3) hp2 S.sep2_3) hs2 S.Tf3) fun x3 p3 tk3 hx3 sn3 hp3 => ?_
  replace hp3 : Heap.SameBut i3 g2 p3 := hp3; have hU3 : IsTupOf3 p3 TO x1 x2 a3 := hp3.extBut _ _ S.Ti3 hT2
  refine wpAny_bind (wpAny_seqItems (s := ⟨p3, g, d, tk3, os⟩) hU3 rfl ?_); refine wpAny_bind (updateSeq_IsTupOf3 (s := ⟨p3, g, d, tk3, os⟩) hU3 fun g3 hT3 hs3 => ?_)
  replace hT3 : IsTupOf3 g3 TO x1 x2 x3 := hT3; replace hs3 : Heap.SameBut TO p3 g3 := hs3
  refine wpAny_bind (wpAny_letGo (wpAny_pure (wpAny_pure ?_)))
  refine wpAny_bind (wpAny_seqItems (s := ⟨g3, g, d, tk3, os⟩) hT3 rfl ?_); refine wpAny_bind (wpAny_newTuple ?_)
  have hsz : g3.objs.size = hp.objs.size := by rw [hs3.1, hp3.1, hs2.1, hp2.1, hs1.1, hp1.1, hs0.1]
  have hzz : IsZipS g3 z TI TO .ellipsis := (hs3.extBut _ _ S.TOz.symm (hp3.extBut _ _ S.zi3 (hs2.extBut _ _ S.TOz.symm (hp2.extBut _ _ S.zi2 (hs1.extBut _ _ S.TOz.symm (hp1.extBut _ _ S.zi1 hz0))))))
  have hkk : ∀ c o, c ≠ z → c ≠ TO → c ≠ i1 → c ≠ i2 → c ≠ i3 → hp.get? c = some o → g3.get? c = some o := fun c o cz cT c1 c2 c3 e => (hs3.extBut _ _ cT (hp3.extBut _ _ c3 (hs2.extBut _ _ cT (hp2.extBut _ _ c2 (hs1.extBut _ _ cT (hp1.extBut _ _ c1 (hs0.extBut _ _ cz e)))))))
  have hj1 : St1 (i + 1) g3 := (D1.over (D1.over (D1.over (D1.over (D1.over sn1 hs1 S.Tf1) hp2 S.sep2_1) hs2 S.Tf1) hp3 S.sep3_1) hs3 S.Tf1)
  have hj2 : St2 (i + 1) g3 := (D2.over (D2.over (D2.over sn2 hs2 S.Tf2) hp3 S.sep3_2) hs3 S.Tf2)
  have hj3 : St3 (i + 1) g3 := (D3.over sn3 hs3 S.Tf3)
  have hzlt : z < g3.objs.size := Heap.lt_size hzz
  show wpAny _ _ (Builtin.SmallTypes.ownedTupleHandOut (.ref z) (.ref g3.objs.size) >>= _) _ _ ⟨g3.push { cls := .type "tuple", data := .seq #[x1, x2, x3] }, g, d, tk3, os⟩
  refine wpAny_bind ?_; unfold Builtin.SmallTypes.ownedTupleHandOut
  have hz6 : IsZipS (g3.push { cls := .type "tuple", data := .seq #[x1, x2, x3] }) z TI TO .ellipsis := Heap.get?_push_of_some _ hzz
  refine wpAny_bind (wpAny_setField_rec hz6 (by simp) fun h7 hz7 hs7 => ?_); replace hz7 : IsZipS h7 z TI TO (rawInt g3.objs.size) := hz7
  refine wpAny_setField_rec hz7 (by simp) fun h8 hz8 hs8 => ?_; replace hz8 : IsZipS h8 z TI TO (rawInt g3.objs.size) := hz8
  replace hs7 : Heap.SameBut z (g3.push { cls := .type "tuple", data := .seq #[x1, x2, x3] }) h7 := hs7; replace hs8 : Heap.SameBut z h7 h8 := hs8
  have up : ∀ c o, c ≠ z → g3.get? c = some o → h8.get? c = some o := fun c o c1 e => hs8.extBut _ _ c1 (hs7.extBut _ _ c1 (Heap.get?_push_of_some _ e))
  have hT8 : IsTupOf3 h8 g3.objs.size x1 x2 x3 := hs8.extBut _ _ (Nat.ne_of_gt hzlt) (hs7.extBut _ _ (Nat.ne_of_gt hzlt) (Heap.get?_push_size _ rfl))
  have hn8 : h8.objs.size = g3.objs.size + 1 := by rw [hs8.1, hs7.1, Heap.size_push]
  rw [hsz] at hz8 hT8 hn8; refine wpAny_pure ⟨_, rfl, ?_⟩; show Q (.ref g3.objs.size) ⟨h8, g, d, tk3, os⟩; rw [hsz]
  exact hQ x1 x2 x3 h8 tk3 hx1 hx2 hx3 hz8 (up _ _ S.TOz hT3) (D1.frame _ _ _ hj1 fun b hb o e => up b o (fun q => S.zf1 (q ▸ hb)) e) (D2.frame _ _ _ hj2 fun b hb o e => up b o (fun q => S.zf2 (q ▸ hb)) e) (D3.frame _ _ _ hj3 fun b hb o e => up b o (fun q => S.zf3 (q ▸ hb)) e) hT8 hn8 fun c o cz cT c1 c2 c3 e => up c o cz (hkk c o cz cT c1 c2 c3 e)

theorem zipS3_end {z TI TO i1 i2 i3 : Addr} {fp1 fp2 fp3 : List Addr} {i : Nat} {P1 P2 P3 : Nat → Value → Prop} {St1 St2 St3 : Nat → Heap → Prop} {a1 a2 a3 : Value} {Q : Fin → Shared → Prop} (hh : A.handled = none) (S : ZipSep3 z TI TO i1 i2 i3 fp1 fp2 fp3) (D1 : Draws prog w A i1 fp1 i P1 St1) (D2 : Draws prog w A i2 fp2 i P2 St2) (D3 : Draws prog w A i3 fp3 i P3 St3)
    (hz : IsZipS s.heap z TI TO .none) (hTI : IsTupOf3 s.heap TI (.ref i1) (.ref i2) (.ref i3)) (hTO : IsTupOf3 s.heap TO a1 a2 a3) (st1 : St1 i s.heap) (st2 : St2 i s.heap) (st3 : St3 i s.heap)
    (hE : ∀ h' tk e, (∀ c o, c ≠ z → c ≠ TO → c ≠ i1 → c ≠ i2 → c ≠ i3 → s.heap.get? c = some o → h'.get? c = some o) → (∃ o, h'.get? e = some o ∧ o.cls = .type "StopIteration") → E (.ref e) { s with heap := h', toks := tk }) :
    wpAny (model prog w) A (Builtin.«zip.__next__» ⟨[.ref z], []⟩) Q E s := by
  obtain ⟨hp, g, d, tk0, os⟩ := s
  show wpAny _ _ (field (.ref z) 2 >>= _) _ _ _; refine wpAny_bind (wpAny_field hz rfl (x := .bool true) rfl ?_); show wpAny _ _ (field (.ref z) 3 >>= _) _ _ _
  refine wpAny_bind (wpAny_field hz rfl (x := .ref TI) rfl ?_); refine wpAny_bind (wpAny_seqItems hTI rfl ?_)
  show wpAny _ _ (Builtin.SmallTypes.ownedTupleIsFree (.ref z) >>= _) _ _ _; refine wpAny_bind ?_
  unfold Builtin.SmallTypes.ownedTupleIsFree; refine wpAny_bind (wpAny_field hz rfl (x := .none) rfl (wpAny_pure ?_)); simp only [if_true]
  refine wpAny_bind (wpAny_rule ?_); refine wpAny_bind (wpAny_field hz rfl (x := .ref TO) rfl ?_); refine wpAny_bind (wpAny_setField_rec hz (by simp) fun g0 hz0 hs0 => ?_)
  replace hz0 : IsZipS g0 z TI TO .ellipsis := hz0; replace hs0 : Heap.SameBut z hp g0 := hs0
  refine wpAny_bind ?_; simp only [List.zipIdx_cons, List.zipIdx_nil, List.forIn_cons, List.forIn_nil]
  refine wpAny_bind (wpAny_bind (wpAny_onRaise ?_)); show wpAny _ _ (Builtin.SmallTypes.nextOrEnd (.ref i1)) _ _ ⟨g0, g, d, tk0, os⟩
  refine noe_end D1 (D1.over st1 hs0 S.zf1) fun q1 e1 => ?_
  replace e1 : Heap.ExtBut i1 g0 q1 := e1; have zq1 : IsZipS q1 z TI TO .ellipsis := e1 _ _ S.zi1 hz0
  refine wpAny_bind (wpAny_setField_rec (s := ⟨q1, g, d, tk0, os⟩) zq1 (by simp) fun r1 zr1 f1 => ?_); replace f1 : Heap.SameBut z q1 r1 := f1
  refine wpAny_bind ?_; show wpAny _ _ (forIn [(Value.ref i2, 1), (Value.ref i3, 2)] _ _ >>= _) _ _ _
  refine wpAny_bind ?_; simp only [List.forIn_cons, List.forIn_nil]
  refine wpAny_bind ?_; show wpAny _ _ (Builtin.SmallTypes.nextOrEnd (.ref i2) >>= _) _ _ ⟨r1, g, d, tk0, os⟩
  refine wpAny_bind (noe_end D2 (D2.frame _ _ _ (D2.over st2 hs0 S.zf2) fun b hb o x => f1.extBut _ _ (fun q => S.zf2 (q ▸ hb)) (e1 _ _ (fun q => S.sep1_2 (q ▸ hb)) x)) fun q2 e2 => wpAny_pure ?_); replace e2 : Heap.ExtBut i2 r1 q2 := e2
  refine wpAny_bind ?_; show wpAny _ _ (Builtin.SmallTypes.nextOrEnd (.ref i3) >>= _) _ _ ⟨q2, g, d, tk0, os⟩
  refine wpAny_bind (noe_end D3 (D3.frame _ _ _ (D3.frame _ _ _ (D3.over st3 hs0 S.zf3) fun b hb o x => f1.extBut _ _ (fun q => S.zf3 (q ▸ hb)) (e1 _ _ (fun q => S.sep1_3 (q ▸ hb)) x)) fun b hb o x => e2 _ _ (fun q => S.sep2_3 (q ▸ hb)) x) fun q3 e3 => wpAny_pure ?_); replace e3 : Heap.ExtBut i3 q2 q3 := e3
  refine wpAny_pure ?_; refine wpAny_bind (wpAny_rule ?_)
  refine stop_raise hh fun h4 e y1 y2 => ?_
  exact hE h4 tk0 e (fun c o cz cT c1 c2 c3 x => y1 _ _ (e3 _ _ c3 (e2 _ _ c2 (f1.extBut _ _ cz (e1 _ _ c1 (hs0.extBut _ _ cz x)))))) y2

theorem walk_zipS3 {z TI TO i1 i2 i3 : Addr} {fp1 fp2 fp3 : List Addr} {n : Nat} {P1 P2 P3 : Nat → Value → Prop} {St1 St2 St3 : Nat → Heap → Prop} (S : ZipSep3 z TI TO i1 i2 i3 fp1 fp2 fp3) (hh : A.in1.handled = none) (D1 : Draws prog w A.in1 i1 fp1 n P1 St1) (D2 : Draws prog w A.in1 i2 fp2 n P2 St2) (D3 : Draws prog w A.in1 i3 fp3 n P3 St3) :
    WalksT prog w A z (z :: TI :: TO :: (fp1 ++ fp2 ++ fp3)) [z, TO, i1, i2, i3] n (fun i vals => ∃ x1 x2 x3, P1 i x1 ∧ P2 i x2 ∧ P3 i x3 ∧ vals = #[x1, x2, x3])
      (fun i h => IsZipS h z TI TO .none ∧ IsTupOf3 h TI (.ref i1) (.ref i2) (.ref i3) ∧ (∃ a1 a2 a3, IsTupOf3 h TO a1 a2 a3) ∧ St1 i h ∧ St2 i h ∧ St3 i h)
      (fun i T h => IsZipS h z TI TO (rawInt T) ∧ IsTupOf3 h TI (.ref i1) (.ref i2) (.ref i3) ∧ (∃ a1 a2 a3, IsTupOf3 h TO a1 a2 a3) ∧ St1 (i + 1) h ∧ St2 (i + 1) h ∧ St3 (i + 1) h ∧ T ≠ z ∧ T ≠ TO ∧ T ≠ i1 ∧ T ≠ i2 ∧ T ≠ i3) where
  sub := fun c hc => by
    rcases (by simpa using hc : c = z ∨ c = TO ∨ c = i1 ∨ c = i2 ∨ c = i3) with rfl | rfl | rfl | rfl | rfl
    · exact List.mem_cons_self ..
    · exact List.mem_cons_of_mem _ (List.mem_cons_of_mem _ (List.mem_cons_self ..))
    · exact (List.mem_cons_of_mem _ (List.mem_cons_of_mem _ (List.mem_cons_of_mem _ (List.mem_append_left _ (List.mem_append_left _ S.mem1)))))
    · exact (List.mem_cons_of_mem _ (List.mem_cons_of_mem _ (List.mem_cons_of_mem _ (List.mem_append_left _ (List.mem_append_right _ S.mem2)))))
    · exact (List.mem_cons_of_mem _ (List.mem_cons_of_mem _ (List.mem_cons_of_mem _ (List.mem_append_right _ S.mem3))))
  frame := fun i h h' hst hk => by
    obtain ⟨hz, hTI, ⟨a1, a2, a3, hTO⟩, st1, st2, st3⟩ := hst; exact ⟨hk z (List.mem_cons_self ..) _ hz, hk TI (List.mem_cons_of_mem _ (List.mem_cons_self ..)) _ hTI, ⟨a1, a2, a3, hk TO (List.mem_cons_of_mem _ (List.mem_cons_of_mem _ (List.mem_cons_self ..))) _ hTO⟩, D1.frame _ _ _ st1 fun b hb o e => hk b (List.mem_cons_of_mem _ (List.mem_cons_of_mem _ (List.mem_cons_of_mem _ (List.mem_append_left _ (List.mem_append_left _ hb))))) o e, D2.frame _ _ _ st2 fun b hb o e => hk b (List.mem_cons_of_mem _ (List.mem_cons_of_mem _ (List.mem_cons_of_mem _ (List.mem_append_left _ (List.mem_append_right _ hb))))) o e, D3.frame _ _ _ st3 fun b hb o e => hk b (List.mem_cons_of_mem _ (List.mem_cons_of_mem _ (List.mem_cons_of_mem _ (List.mem_append_right _ hb)))) o e⟩
  item := fun i s Q E hi hst hQ => by
    obtain ⟨hz, hTI, ⟨a1, a2, a3, hTO⟩, st1, st2, st3⟩ := hst
    have hT : s.TypeIs (.ref z) "zip" := ⟨_, hz, rfl⟩
    unfold pyNext
    refine wpAny_bind (wpAny_attempt (wpAny_callSpecial?_slot (name := Str.ofString "__next__") hT F.slot_zip_next (wpAny_call_entry F.slot_zip_next hT F.entry_zip_next (zipS3_item S D1 D2 D3 hz hTI hTO st1 st2 st3 hi hi hi fun x1 x2 x3 h' tk y1 y2 y3 b1 b2 d1 d2 d3 b5 b6 hk => wpAny_pure ?_) (F.args_zip_next_1 _))))
    have lt : ∀ {c o}, s.heap.get? c = some o → s.heap.objs.size ≠ c := fun e => Nat.ne_of_gt (Heap.lt_size e)
    have m1 : s.heap.objs.size ≠ i1 := (D1.live _ _ st1).elim fun _ e => lt e
    have m2 : s.heap.objs.size ≠ i2 := (D2.live _ _ st2).elim fun _ e => lt e
    have m3 : s.heap.objs.size ≠ i3 := (D3.live _ _ st3).elim fun _ e => lt e
    exact hQ s.heap.objs.size #[x1, x2, x3] h' tk ⟨x1, x2, x3, y1, y2, y3, rfl⟩ (Nat.le_refl _) ⟨_, b5, rfl, _, rfl⟩ ⟨b1, hk _ _ S.TIz S.TITO S.TIi1 S.TIi2 S.TIi3 hTI, ⟨_, _, _, b2⟩, d1, d2, d3, lt hz, lt hTO, m1, m2, m3⟩ fun c o hc e => hk c o (fun x => hc (by simp [x])) (fun x => hc (by simp [x])) (fun x => hc (by simp [x])) (fun x => hc (by simp [x])) (fun x => hc (by simp [x])) e
  go := fun elts k pos i T s Q E hm hQ => by
    obtain ⟨hz, hTI, ⟨a1, a2, a3, hTO⟩, st1, st2, st3, _⟩ := hm; exact go_zipS hz fun h' hz' hs' => hQ h' ⟨hz', hs'.extBut _ _ S.TIz hTI, ⟨a1, a2, a3, hs'.extBut _ _ S.TOz hTO⟩, D1.over st1 hs' S.zf1, D2.over st2 hs' S.zf2, D3.over st3 hs' S.zf3⟩ fun c o hc e => hs'.extBut _ _ (fun x => hc (by simp [x])) e
  apart := fun i T h hm hT => by
    obtain ⟨_, _, _, _, _, _, tz, tT, t1, t2, t3⟩ := hm; rcases (by simpa using hT : T = z ∨ T = TO ∨ T = i1 ∨ T = i2 ∨ T = i3) with e | e | e | e | e
    · exact tz e
    · exact tT e
    · exact t1 e
    · exact t2 e
    · exact t3 e
  done := fun s Q E hst hQ => by
    obtain ⟨hz, hTI, ⟨a1, a2, a3, hTO⟩, st1, st2, st3⟩ := hst
    have hT : s.TypeIs (.ref z) "zip" := ⟨_, hz, rfl⟩
    unfold pyNext
    refine wpAny_bind (wpAny_attempt (wpAny_callSpecial?_slot (name := Str.ofString "__next__") hT F.slot_zip_next (wpAny_call_entry F.slot_zip_next hT F.entry_zip_next (zipS3_end hh S D1 D2 D3 hz hTI hTO st1 st2 st3 fun h' tk e hk he => ?_) (F.args_zip_next_1 _))))
    obtain ⟨o, ho, hc⟩ := he
    refine wpAny_bind (wpAny_isInstance (T := "StopIteration") (b := true) ⟨o, ho, hc⟩ isSubtype_stop ?_); exact wpAny_pure (hQ _ _ fun c o hc e => hk c o (fun x => hc (by simp [x])) (fun x => hc (by simp [x])) (fun x => hc (by simp [x])) (fun x => hc (by simp [x])) (fun x => hc (by simp [x])) e)
  self := fun i s Q E hst hQ => iter_zipS hst.1 hQ
theorem goes_zipS3 {elts : List Expr} {kk : Nat} {pos : Pos} {z TI TO i1 i2 i3 : Addr} {fp1 fp2 fp3 : List Addr} {n : Nat} {P1 P2 P3 : Nat → Value → Prop} {St1 St2 St3 : Nat → Heap → Prop} (S : ZipSep3 z TI TO i1 i2 i3 fp1 fp2 fp3) (hh : A.in1.handled = none) (D1 : Draws prog w A.in1 i1 fp1 n P1 St1) (D2 : Draws prog w A.in1 i2 fp2 n P2 St2) (D3 : Draws prog w A.in1 i3 fp3 n P3 St3) :
    GoesN prog w A (.Tuple elts kk pos) z (z :: TI :: TO :: (fp1 ++ fp2 ++ fp3)) [z, TO, i1, i2, i3] n (fun i hₒ v h => ∃ T x1 x2 x3, v = .ref T ∧ hₒ.objs.size ≤ T ∧ P1 i x1 ∧ P2 i x2 ∧ P3 i x3 ∧ h.IsTuple T #[x1, x2, x3])
      (fun i h => IsZipS h z TI TO .none ∧ IsTupOf3 h TI (.ref i1) (.ref i2) (.ref i3) ∧ (∃ a1 a2 a3, IsTupOf3 h TO a1 a2 a3) ∧ St1 i h ∧ St2 i h ∧ St3 i h) :=
  (GoesN.ofWalksT (walk_zipS3 S hh D1 D2 D3)).mono fun i hₒ v h _ ⟨T, vals, ev, hn, ⟨x1, x2, x3, h1, h2, h3, evs⟩, hT⟩ => ⟨T, x1, x2, x3, ev, hn, h1, h2, h3, evs ▸ hT⟩

theorem typeCall_zipS3 (a b c t : Value) : checkTypeCall "zip" ⟨[a, b, c], [(Str.ofString "strict", t)]⟩ = pure () := by kernel_rfl
theorem newCall_zipS3 (a b c t : Value) : checkBuiltinCall "zip.__new__" ⟨[.type "zip", a, b, c], [(Str.ofString "strict", t)]⟩ = pure () := by kernel_rfl
theorem init_zipS3 (obj a b c t : Value) : argsOk "object.__init__" ⟨[obj, a, b, c], [(Str.ofString "strict", t)]⟩ := by unfold argsOk; kernel_rfl
abbrev zsT3 (h : Heap) (o1 o2 o3 : Obj) : Heap := (((h.push o1).push o2).push o3).push { cls := .type "tuple", data := .seq #[.ref h.objs.size, .ref (h.push o1).objs.size, .ref ((h.push o1).push o2).objs.size] }
abbrev zsO3 (h : Heap) (o1 o2 o3 : Obj) : Heap := (zsT3 h o1 o2 o3).push { cls := .type "tuple", data := .seq #[.none, .none, .none] }
abbrev zsZ3 (h : Heap) (o1 o2 o3 : Obj) : Heap := (zsO3 h o1 o2 o3).push { cls := .type "zip", data := .fields #[.none, .bool false, .bool true, .ref (((h.push o1).push o2).push o3).objs.size, .ref (zsT3 h o1 o2 o3).objs.size] }
theorem meets_zipS3 {v1 v2 v3 : Value} {o1 o2 o3 : Obj} {H1 H2 H3 : Heap → Prop} (B1 : Begins v1 o1 H1) (B2 : Begins v2 o2 H2) (B3 : Begins v3 o3 H3) :
    Meets (Builtin.«zip.__new__» ⟨[.type "zip", v1, v2, v3], [(Str.ofString "strict", .bool true)]⟩) (fun _ R s => (H1 s.heap ∧ H2 s.heap ∧ H3 s.heap) ∧ R (.ok (.ret (.ref (zsO3 s.heap o1 o2 o3).objs.size))) { s with heap := zsZ3 s.heap o1 o2 o3 }) :=
  .of_wp fun prog w A R s h => by
    obtain ⟨hp, g, d, tk, os⟩ := s; obtain ⟨⟨h1, h2, h3⟩, h⟩ := h; have hsub := sub_zip
    have e2 : (Str.ofString "strict" != ("strict" : Str)) = false := by decide +kernel
    have q1 : ∀ {A' : Around} {E Q : Value → Shared → Prop}, Q (.ref hp.objs.size) ⟨(hp.push o1), g, d, tk, os⟩ → wpAny (model prog w) A' (pyIter v1) Q E ⟨hp, g, d, tk, os⟩ := fun q => B1.iter prog w _ _ ⟨hp, g, d, tk, os⟩ _ (B1.keeps _ _ h1 fun b o' e => e) q
    have q2 : ∀ {A' : Around} {E Q : Value → Shared → Prop}, Q (.ref (hp.push o1).objs.size) ⟨((hp.push o1).push o2), g, d, tk, os⟩ → wpAny (model prog w) A' (pyIter v2) Q E ⟨(hp.push o1), g, d, tk, os⟩ := fun q => B2.iter prog w _ _ ⟨(hp.push o1), g, d, tk, os⟩ _ (B2.keeps _ _ h2 fun b o' e => (Heap.get?_push_of_some _ e)) q
    have q3 : ∀ {A' : Around} {E Q : Value → Shared → Prop}, Q (.ref ((hp.push o1).push o2).objs.size) ⟨(((hp.push o1).push o2).push o3), g, d, tk, os⟩ → wpAny (model prog w) A' (pyIter v3) Q E ⟨((hp.push o1).push o2), g, d, tk, os⟩ := fun q => B3.iter prog w _ _ ⟨((hp.push o1).push o2), g, d, tk, os⟩ _ (B3.keeps _ _ h3 fun b o' e => (Heap.get?_push_of_some _ (Heap.get?_push_of_some _ e))) q
    wp_walk using q1, q2, q3
    exact ⟨_, rfl, h⟩
theorem zipS_begins3 {v1 v2 v3 : Value} {o1 o2 o3 : Obj} {H1 H2 H3 : Heap → Prop} {Q : Value → Shared → Prop} (B1 : Begins v1 o1 H1) (B2 : Begins v2 o2 H2) (B3 : Begins v3 o3 H3) (h1 : H1 s.heap) (h2 : H2 s.heap) (h3 : H3 s.heap)
    (h : ∀ h', IsZipS h' (s.heap.objs.size + 5) (s.heap.objs.size + 3) (s.heap.objs.size + 4) .none → IsTupOf3 h' (s.heap.objs.size + 3) (.ref s.heap.objs.size) (.ref (s.heap.objs.size + 1)) (.ref (s.heap.objs.size + 2)) → IsTupOf3 h' (s.heap.objs.size + 4) .none .none .none → h'.get? s.heap.objs.size = some o1 → h'.get? (s.heap.objs.size + 1) = some o2 → h'.get? (s.heap.objs.size + 2) = some o3 → h'.objs.size = s.heap.objs.size + 6 →
      (∀ c o, s.heap.get? c = some o → h'.get? c = some o) → Q (.ref (s.heap.objs.size + 5)) { s with heap := h' }) : wpAny (model prog w) A (call (.type "zip") [v1, v2, v3] [(Str.ofString "strict", .bool true)]) Q E s := by
  refine callType_newKw F.called_zip (by decide) (typeCall_zipS3 _ _ _ _) (newCall_zipS3 _ _ _ _) (fun obj => init_zipS3 obj _ _ _ _) F.entry_zip_new (meets_zipS3 B1 B2 B3) ⟨⟨h1, h2, h3⟩, ?_⟩
  have z1 : (s.heap.push o1).objs.size = s.heap.objs.size + 1 := by rw [Heap.size_push]
  have z2 : ((s.heap.push o1).push o2).objs.size = s.heap.objs.size + 2 := by rw [Heap.size_push, z1]
  have z3 : (((s.heap.push o1).push o2).push o3).objs.size = s.heap.objs.size + 3 := by rw [Heap.size_push, z2]
  have zT : (zsT3 s.heap o1 o2 o3).objs.size = s.heap.objs.size + 4 := by rw [Heap.size_push, z3]
  have zO : (zsO3 s.heap o1 o2 o3).objs.size = s.heap.objs.size + 5 := by rw [Heap.size_push, zT]
  have zZ : (zsZ3 s.heap o1 o2 o3).objs.size = s.heap.objs.size + 6 := by rw [Heap.size_push, zO]
  have gZ : (zsZ3 s.heap o1 o2 o3).get? (zsO3 s.heap o1 o2 o3).objs.size = some { cls := .type "zip", data := .fields #[.none, .bool false, .bool true, .ref (((s.heap.push o1).push o2).push o3).objs.size, .ref (zsT3 s.heap o1 o2 o3).objs.size] } := Heap.get?_push_size _ rfl
  have gO : (zsZ3 s.heap o1 o2 o3).get? (zsT3 s.heap o1 o2 o3).objs.size = some { cls := .type "tuple", data := .seq #[.none, .none, .none] } := Heap.get?_push_of_some _ (Heap.get?_push_size _ rfl)
  have gT : (zsZ3 s.heap o1 o2 o3).get? (((s.heap.push o1).push o2).push o3).objs.size = some { cls := .type "tuple", data := .seq #[.ref s.heap.objs.size, .ref (s.heap.push o1).objs.size, .ref ((s.heap.push o1).push o2).objs.size] } := Heap.get?_push_of_some _ (Heap.get?_push_of_some _ (Heap.get?_push_size _ rfl))
  have g1 : (zsZ3 s.heap o1 o2 o3).get? s.heap.objs.size = some o1 := Heap.get?_push_of_some _ (Heap.get?_push_of_some _ (Heap.get?_push_of_some _ (Heap.get?_push_of_some _ (Heap.get?_push_of_some _ (Heap.get?_push_size _ B1.free)))))
  have g2 : (zsZ3 s.heap o1 o2 o3).get? (s.heap.push o1).objs.size = some o2 := Heap.get?_push_of_some _ (Heap.get?_push_of_some _ (Heap.get?_push_of_some _ (Heap.get?_push_of_some _ (Heap.get?_push_size _ B2.free))))
  have g3 : (zsZ3 s.heap o1 o2 o3).get? ((s.heap.push o1).push o2).objs.size = some o3 := Heap.get?_push_of_some _ (Heap.get?_push_of_some _ (Heap.get?_push_of_some _ (Heap.get?_push_size _ B3.free)))
  rw [zO, zT, z3] at gZ; rw [zT] at gO; rw [z3, z2, z1] at gT
  rw [z1] at g2
  rw [z2] at g3
  show _ ∧ _; rw [zO]
  exact ⟨⟨_, gZ, rfl⟩, h _ gZ gT gO g1 g2 g3 zZ fun c o e => Heap.get?_push_of_some _ (Heap.get?_push_of_some _ (Heap.get?_push_of_some _ (Heap.get?_push_of_some _ (Heap.get?_push_of_some _ (Heap.get?_push_of_some _ (e))))))⟩

end
end MP

/-! MP: zips are walked. -/
namespace MP
open PySem PySem.Spec PyProof.Rows L2 PySem.Calls
/-- a built-in type called with keywords -/
theorem callT_kw {M : Model} {A : Around} {E : Value → Shared → Prop} {s : Shared} {env : PySem.Env} {pos : Pos} {T : String} {e : Expr} {rest : List Expr} {kws : List Keyword} {Q : Value → Shared → Prop}
    (h : wpAny M A (spliced (backTo pos (starEach (e :: rest) env))) (fun vs s1 => wpAny M A (evalAll ((backToKw pos (keywordEach kws env)).map (·.2))) (fun ks s2 => wpAny M A (call (.type T) vs (((backToKw pos (keywordEach kws env)).filterMap (·.1)).zip ks)) Q E s2) E s1) E s)
    (he : starEach (e :: rest) env = (false, eval e env) :: starEach rest env) (hp : (backTo pos (starEach rest env)).any (·.1) = false) (ha : (backToKw pos (keywordEach kws env)).all (·.1.isSome) = true) (hk : (backToKw pos (keywordEach kws env)).any (·.1.isNone) = false) :
    wpAny M A (callWith pos (.type T) [] (backTo pos (starEach (e :: rest) env)) (backToKw pos (keywordEach kws env))) Q E s := by
  have he2 : backTo pos (starEach (e :: rest) env) = (false, eval e env) :: backTo pos (starEach rest env) := by rw [he]; rfl
  rw [he2] at h ⊢
  have hpl : ((false, eval e env) :: backTo pos (starEach rest env)).any (·.1) = false := by
    show (false || (backTo pos (starEach rest env)).any (·.1)) = false
    rw [hp]; rfl
  have h2 := evalArgs_kwB (f := .type T) (Q := fun a s1 => wpAny M A (call (.type T) a.pos a.kw) Q E s1) ha h
  unfold callWith; refine wpAny_bind (wpAny_holding (wpAny_mono h2 (fun a t ht => wpAny_bind (wpAny_standAt ?_)) fun _ _ y => y)); simp only [hpl, hk, Bool.or_false]
  refine wpAny_bind (wpAny_pure ?_); exact wpAny_bind (wpAny_mono ht (fun r t2 hr => wpAny_bind (wpAny_holding (wpAny_point (wpAny_pure hr)))) fun _ _ y => y)
theorem vals_3 {x y z : V} {us : List Value} (h : Vals [x, y, z] us) : ∃ u v t, us = [u, v, t] ∧ RelV x u ∧ RelV y v ∧ RelV z t := by
  cases h with
  | cons a b =>
    cases b with
    | cons b c =>
      cases c with
      | cons c d =>
        cases d
        exact ⟨_, _, _, rfl, a, b, c⟩

def ItzS2 (K : PySem.W.Frag) (b1 b2 : Bool) (a1 a2 : Addr) : L2.It :=
  ⟨fun i H => ∃ vs1 vs2 x1 x2, Src K H b1 a1 vs1 ∧ Src K H b2 a2 vs2 ∧ vs2.length = vs1.length ∧ vs1[i]? = some x1 ∧ vs2[i]? = some x2,
    fun i H v H' => ∃ T x1 x2, v = .ref T ∧ H T = none ∧ H' = upd H T (.tup [x1, x2]) ∧ (∀ vs, Src K H b1 a1 vs → vs[i]? = some x1) ∧ (∀ vs, Src K H b2 a2 vs → vs[i]? = some x2),
    fun i H => ∃ vs1 vs2, Src K H b1 a1 vs1 ∧ Src K H b2 a2 vs2 ∧ vs2.length = vs1.length ∧ vs1.length = i⟩
def TnS2 (b1 b2 : Bool) (a1 a2 z TI TO i1 i2 : Addr) (i : Nat) (h : Heap) : Prop := IsZipS h z TI TO .none ∧ IsTupOf2 h TI (.ref i1) (.ref i2) ∧ (∃ x1 x2, IsTupOf2 h TO x1 x2) ∧ SrcIt h i1 b1 a1 i ∧ SrcIt h i2 b2 a2 i
theorem turn_zS2 {P : Program} {w : World} {K : PySem.W.Frag} {elts : List Expr} {kk : Nat} {tpos : Pos} {b1 b2 : Bool} {a1 a2 z TI TO i1 i2 : Addr} (S : ZipSep2 z TI TO i1 i2 [i1, a1] [i2, a2]) (h1 : a1 ≠ i1) (h2 : a2 ≠ i2) :
    Turn P w K (.Tuple elts kk tpos) (ItzS2 K b1 b2 a1 a2) [z, TI, TO, i1, i2] z (TnS2 b1 b2 a1 a2 z TI TO i1 i2) := by
  have G : ∀ {A : Around}, A.handled = none → ∀ t1 t2 : Array Value, t2.size = t1.size → GoesN P w A (.Tuple elts kk tpos) z (z :: TI :: TO :: ([i1, a1] ++ [i2, a2])) [z, TO, i1, i2] t1.size (fun i hₒ v h => ∃ T x1 x2, v = .ref T ∧ hₒ.objs.size ≤ T ∧ t1[i]? = some x1 ∧ t2[i]? = some x2 ∧ h.IsTuple T #[x1, x2])
      (fun i h => IsZipS h z TI TO .none ∧ IsTupOf2 h TI (.ref i1) (.ref i2) ∧ (∃ x1 x2, IsTupOf2 h TO x1 x2) ∧ (SrcIt h i1 b1 a1 i ∧ SrcHas h b1 a1 t1) ∧ (SrcIt h i2 b2 a2 i ∧ SrcHas h b2 a2 t2)) := fun hh t1 t2 e2 => goes_zipS2 S hh (src_draws (A := Around.in1 _) hh i1 a1 b1 h1 t1) (e2 ▸ src_draws (A := Around.in1 _) hh i2 a2 b2 h2 t2)
  refine turn_gn [z, TO, i1, i2] (List.mem_cons_self ..) (fun c h => by simp only [List.mem_cons, List.not_mem_nil, or_false] at h ⊢; rcases h with h | h | h | h <;> simp [h]) (fun i h st c hc => ?_) (fun i h h' st k => ?_) (fun X hP hw hK hc i pins s σ H I st hg => ?_) (fun X hP hw hK hc i pins s σ H I st hg => ?_) fun P w A i s Q E st h => ?_
  · obtain ⟨r1, r2, ⟨x1, x2, r3⟩, q1, q2⟩ := st; rcases (by simpa using hc : c = z ∨ c = TI ∨ c = TO ∨ c = i1 ∨ c = i2) with e | e | e | e | e <;> rw [e]
    · exact ⟨_, r1, fun v q => nomatch q⟩
    · exact ⟨_, r2, fun v q => nomatch q⟩
    · exact ⟨_, r3, fun v q => nomatch q⟩
    · exact q1.obj
    · exact q2.obj
  · obtain ⟨r1, r2, ⟨x1, x2, r3⟩, q1, q2⟩ := st; exact ⟨k z (by simp) _ r1, k TI (by simp) _ r2, ⟨x1, x2, k TO (by simp) _ r3⟩, q1.to fun o q => k i1 (by simp) o q, q2.to fun o q => k i2 (by simp) o q⟩
  · subst hK
    obtain ⟨vs1, vs2, x1, x2, s1, s2, e2, g1, g2⟩ := hg
    obtain ⟨its1, rv1, hs1, hz1⟩ := s1.has I
    obtain ⟨its2, rv2, hs2, hz2⟩ := s2.has I
    obtain ⟨u1, hu1, ru1⟩ := rv1.get g1
    obtain ⟨u2, hu2, ru2⟩ := rv2.get g2
    obtain ⟨r1, r2, r3, q1, q2⟩ := st
    refine ⟨_, _, _, _, G (I.ok.hd hc) its1.toArray its2.toArray (by simp only [List.size_toArray]; rw [← rv2.length, ← rv1.length]; exact e2), ?_, ⟨r1, r2, r3, ⟨q1, hs1⟩, q2, hs2⟩, fun h' st' => ?_, fun v h' yy => ?_⟩
    · have k1 := (List.getElem?_eq_some_iff.mp hu1).1; have k2 := (List.getElem?_eq_some_iff.mp hu2).1; simp only [List.size_toArray]; omega
    · obtain ⟨m1, m2, m3, ⟨w1, _⟩, w2, _⟩ := st'; exact ⟨m1, m2, m3, w1, w2⟩
    · obtain ⟨T, y1, y2, rfl, hT, hy1, hy2, hp⟩ := yy
      have d1 := get_vals hy1 hu1
      have d2 := get_vals hy2 hu2
      subst d1 d2
      exact ⟨T, [x1, x2], [y1, y2], rfl, hT, by show 2 ≤ sizeLine; decide, .cons ru1 (.cons ru2 .nil), hp, fun hn => ⟨T, x1, x2, rfl, hn, rfl, fun l hl => by rw [Src.inj I hl s1]; exact g1, fun l hl => by rw [Src.inj I hl s2]; exact g2⟩⟩
  · subst hK
    obtain ⟨vs1, vs2, s1, s2, e2, hl⟩ := hg
    obtain ⟨its1, rv1, hs1, hz1⟩ := s1.has I
    obtain ⟨its2, rv2, hs2, hz2⟩ := s2.has I
    obtain ⟨r1, r2, r3, q1, q2⟩ := st
    refine ⟨_, _, _, _, G (I.ok.hd hc) its1.toArray its2.toArray (by simp only [List.size_toArray]; rw [← rv2.length, ← rv1.length]; exact e2), ?_, ⟨r1, r2, r3, ⟨q1, hs1⟩, q2, hs2⟩⟩
    rw [List.size_toArray, ← rv1.length]; exact hl.symm
  · exact iter_zipS st.1 h

def ItzS3 (K : PySem.W.Frag) (b1 b2 b3 : Bool) (a1 a2 a3 : Addr) : L2.It :=
  ⟨fun i H => ∃ vs1 vs2 vs3 x1 x2 x3, Src K H b1 a1 vs1 ∧ Src K H b2 a2 vs2 ∧ Src K H b3 a3 vs3 ∧ vs2.length = vs1.length ∧ vs3.length = vs1.length ∧ vs1[i]? = some x1 ∧ vs2[i]? = some x2 ∧ vs3[i]? = some x3,
    fun i H v H' => ∃ T x1 x2 x3, v = .ref T ∧ H T = none ∧ H' = upd H T (.tup [x1, x2, x3]) ∧ (∀ vs, Src K H b1 a1 vs → vs[i]? = some x1) ∧ (∀ vs, Src K H b2 a2 vs → vs[i]? = some x2) ∧ (∀ vs, Src K H b3 a3 vs → vs[i]? = some x3),
    fun i H => ∃ vs1 vs2 vs3, Src K H b1 a1 vs1 ∧ Src K H b2 a2 vs2 ∧ Src K H b3 a3 vs3 ∧ vs2.length = vs1.length ∧ vs3.length = vs1.length ∧ vs1.length = i⟩
def TnS3 (b1 b2 b3 : Bool) (a1 a2 a3 z TI TO i1 i2 i3 : Addr) (i : Nat) (h : Heap) : Prop := IsZipS h z TI TO .none ∧ IsTupOf3 h TI (.ref i1) (.ref i2) (.ref i3) ∧ (∃ x1 x2 x3, IsTupOf3 h TO x1 x2 x3) ∧ SrcIt h i1 b1 a1 i ∧ SrcIt h i2 b2 a2 i ∧ SrcIt h i3 b3 a3 i
theorem turn_zS3 {P : Program} {w : World} {K : PySem.W.Frag} {elts : List Expr} {kk : Nat} {tpos : Pos} {b1 b2 b3 : Bool} {a1 a2 a3 z TI TO i1 i2 i3 : Addr} (S : ZipSep3 z TI TO i1 i2 i3 [i1, a1] [i2, a2] [i3, a3]) (h1 : a1 ≠ i1) (h2 : a2 ≠ i2) (h3 : a3 ≠ i3) :
    Turn P w K (.Tuple elts kk tpos) (ItzS3 K b1 b2 b3 a1 a2 a3) [z, TI, TO, i1, i2, i3] z (TnS3 b1 b2 b3 a1 a2 a3 z TI TO i1 i2 i3) := by
  have G : ∀ {A : Around}, A.handled = none → ∀ t1 t2 t3 : Array Value, t2.size = t1.size → t3.size = t1.size → GoesN P w A (.Tuple elts kk tpos) z (z :: TI :: TO :: ([i1, a1] ++ [i2, a2] ++ [i3, a3])) [z, TO, i1, i2, i3] t1.size (fun i hₒ v h => ∃ T x1 x2 x3, v = .ref T ∧ hₒ.objs.size ≤ T ∧ t1[i]? = some x1 ∧ t2[i]? = some x2 ∧ t3[i]? = some x3 ∧ h.IsTuple T #[x1, x2, x3])
      (fun i h => IsZipS h z TI TO .none ∧ IsTupOf3 h TI (.ref i1) (.ref i2) (.ref i3) ∧ (∃ x1 x2 x3, IsTupOf3 h TO x1 x2 x3) ∧ (SrcIt h i1 b1 a1 i ∧ SrcHas h b1 a1 t1) ∧ (SrcIt h i2 b2 a2 i ∧ SrcHas h b2 a2 t2) ∧ (SrcIt h i3 b3 a3 i ∧ SrcHas h b3 a3 t3)) := fun hh t1 t2 t3 e2 e3 => goes_zipS3 S hh (src_draws (A := Around.in1 _) hh i1 a1 b1 h1 t1) (e2 ▸ src_draws (A := Around.in1 _) hh i2 a2 b2 h2 t2) (e3 ▸ src_draws (A := Around.in1 _) hh i3 a3 b3 h3 t3)
  refine turn_gn [z, TO, i1, i2, i3] (List.mem_cons_self ..) (fun c h => by simp only [List.mem_cons, List.not_mem_nil, or_false] at h ⊢; rcases h with h | h | h | h | h <;> simp [h]) (fun i h st c hc => ?_) (fun i h h' st k => ?_) (fun X hP hw hK hc i pins s σ H I st hg => ?_) (fun X hP hw hK hc i pins s σ H I st hg => ?_) fun P w A i s Q E st h => ?_
  · obtain ⟨r1, r2, ⟨x1, x2, x3, r3⟩, q1, q2, q3⟩ := st; rcases (by simpa using hc : c = z ∨ c = TI ∨ c = TO ∨ c = i1 ∨ c = i2 ∨ c = i3) with e | e | e | e | e | e <;> rw [e]
    · exact ⟨_, r1, fun v q => nomatch q⟩
    · exact ⟨_, r2, fun v q => nomatch q⟩
    · exact ⟨_, r3, fun v q => nomatch q⟩
    · exact q1.obj
    · exact q2.obj
    · exact q3.obj
  · obtain ⟨r1, r2, ⟨x1, x2, x3, r3⟩, q1, q2, q3⟩ := st; exact ⟨k z (by simp) _ r1, k TI (by simp) _ r2, ⟨x1, x2, x3, k TO (by simp) _ r3⟩, q1.to fun o q => k i1 (by simp) o q, q2.to fun o q => k i2 (by simp) o q, q3.to fun o q => k i3 (by simp) o q⟩
  · subst hK
    obtain ⟨vs1, vs2, vs3, x1, x2, x3, s1, s2, s3, e2, e3, g1, g2, g3⟩ := hg
    obtain ⟨its1, rv1, hs1, hz1⟩ := s1.has I
    obtain ⟨its2, rv2, hs2, hz2⟩ := s2.has I
    obtain ⟨its3, rv3, hs3, hz3⟩ := s3.has I
    obtain ⟨u1, hu1, ru1⟩ := rv1.get g1
    obtain ⟨u2, hu2, ru2⟩ := rv2.get g2
    obtain ⟨u3, hu3, ru3⟩ := rv3.get g3
    obtain ⟨r1, r2, r3, q1, q2, q3⟩ := st
    refine ⟨_, _, _, _, G (I.ok.hd hc) its1.toArray its2.toArray its3.toArray (by simp only [List.size_toArray]; rw [← rv2.length, ← rv1.length]; exact e2) (by simp only [List.size_toArray]; rw [← rv3.length, ← rv1.length]; exact e3), ?_, ⟨r1, r2, r3, ⟨q1, hs1⟩, ⟨q2, hs2⟩, q3, hs3⟩, fun h' st' => ?_, fun v h' yy => ?_⟩
    · have k1 := (List.getElem?_eq_some_iff.mp hu1).1; have k2 := (List.getElem?_eq_some_iff.mp hu2).1; have k3 := (List.getElem?_eq_some_iff.mp hu3).1; simp only [List.size_toArray]; omega
    · obtain ⟨m1, m2, m3, ⟨w1, _⟩, ⟨w2, _⟩, w3, _⟩ := st'; exact ⟨m1, m2, m3, w1, w2, w3⟩
    · obtain ⟨T, y1, y2, y3, rfl, hT, hy1, hy2, hy3, hp⟩ := yy
      have d1 := get_vals hy1 hu1
      have d2 := get_vals hy2 hu2
      have d3 := get_vals hy3 hu3
      subst d1 d2 d3
      exact ⟨T, [x1, x2, x3], [y1, y2, y3], rfl, hT, by show 3 ≤ sizeLine; decide, .cons ru1 (.cons ru2 (.cons ru3 .nil)), hp, fun hn => ⟨T, x1, x2, x3, rfl, hn, rfl, fun l hl => by rw [Src.inj I hl s1]; exact g1, fun l hl => by rw [Src.inj I hl s2]; exact g2, fun l hl => by rw [Src.inj I hl s3]; exact g3⟩⟩
  · subst hK
    obtain ⟨vs1, vs2, vs3, s1, s2, s3, e2, e3, hl⟩ := hg
    obtain ⟨its1, rv1, hs1, hz1⟩ := s1.has I
    obtain ⟨its2, rv2, hs2, hz2⟩ := s2.has I
    obtain ⟨its3, rv3, hs3, hz3⟩ := s3.has I
    obtain ⟨r1, r2, r3, q1, q2, q3⟩ := st
    refine ⟨_, _, _, _, G (I.ok.hd hc) its1.toArray its2.toArray its3.toArray (by simp only [List.size_toArray]; rw [← rv2.length, ← rv1.length]; exact e2) (by simp only [List.size_toArray]; rw [← rv3.length, ← rv1.length]; exact e3), ?_, ⟨r1, r2, r3, ⟨q1, hs1⟩, ⟨q2, hs2⟩, q3, hs3⟩⟩
    rw [List.size_toArray, ← rv1.length]; exact hl.symm
  · exact iter_zipS st.1 h

def Itz3 (K : PySem.W.Frag) (b1 b2 b3 : Bool) (a1 a2 a3 : Addr) : L2.It :=
  ⟨fun i H => ∃ vs1 vs2 vs3 x1 x2 x3, Src K H b1 a1 vs1 ∧ Src K H b2 a2 vs2 ∧ Src K H b3 a3 vs3 ∧ vs1[i]? = some x1 ∧ vs2[i]? = some x2 ∧ vs3[i]? = some x3,
    fun i H v H' => ∃ T x1 x2 x3, v = .ref T ∧ H T = none ∧ H' = upd H T (.tup [x1, x2, x3]) ∧ (∀ vs, Src K H b1 a1 vs → vs[i]? = some x1) ∧ (∀ vs, Src K H b2 a2 vs → vs[i]? = some x2) ∧ (∀ vs, Src K H b3 a3 vs → vs[i]? = some x3),
    fun i H => ∃ vs1 vs2 vs3, Src K H b1 a1 vs1 ∧ Src K H b2 a2 vs2 ∧ Src K H b3 a3 vs3 ∧ (min (min vs1.length vs2.length) vs3.length) = i⟩
def Tn3 (b1 b2 b3 : Bool) (a1 a2 a3 z TI TO i1 i2 i3 : Addr) (i : Nat) (h : Heap) : Prop := IsZip h z TI TO .none ∧ IsTupOf3 h TI (.ref i1) (.ref i2) (.ref i3) ∧ (∃ x1 x2 x3, IsTupOf3 h TO x1 x2 x3) ∧ SrcIt h i1 b1 a1 i ∧ SrcIt h i2 b2 a2 i ∧ SrcIt h i3 b3 a3 i
theorem turn_z3 {P : Program} {w : World} {K : PySem.W.Frag} {elts : List Expr} {kk : Nat} {tpos : Pos} {b1 b2 b3 : Bool} {a1 a2 a3 z TI TO i1 i2 i3 : Addr} (S : ZipSep3 z TI TO i1 i2 i3 [i1, a1] [i2, a2] [i3, a3]) (h1 : a1 ≠ i1) (h2 : a2 ≠ i2) (h3 : a3 ≠ i3) :
    Turn P w K (.Tuple elts kk tpos) (Itz3 K b1 b2 b3 a1 a2 a3) [z, TI, TO, i1, i2, i3] z (Tn3 b1 b2 b3 a1 a2 a3 z TI TO i1 i2 i3) := by
  have G : ∀ {A : Around}, A.handled = none → ∀ t1 t2 t3 : Array Value, GoesN P w A (.Tuple elts kk tpos) z (z :: TI :: TO :: ([i1, a1] ++ [i2, a2] ++ [i3, a3])) [z, TO, i1, i2, i3] (min (min t1.size t2.size) t3.size) (fun i hₒ v h => ∃ T x1 x2 x3, v = .ref T ∧ hₒ.objs.size ≤ T ∧ t1[i]? = some x1 ∧ t2[i]? = some x2 ∧ t3[i]? = some x3 ∧ h.IsTuple T #[x1, x2, x3])
      (fun i h => IsZip h z TI TO .none ∧ IsTupOf3 h TI (.ref i1) (.ref i2) (.ref i3) ∧ (∃ x1 x2 x3, IsTupOf3 h TO x1 x2 x3) ∧ (SrcIt h i1 b1 a1 i ∧ SrcHas h b1 a1 t1) ∧ (SrcIt h i2 b2 a2 i ∧ SrcHas h b2 a2 t2) ∧ (SrcIt h i3 b3 a3 i ∧ SrcHas h b3 a3 t3)) := fun hh t1 t2 t3 => GoesN.zip3 S (src_draws (A := Around.in1 _) hh i1 a1 b1 h1 t1) (src_draws (A := Around.in1 _) hh i2 a2 b2 h2 t2) (src_draws (A := Around.in1 _) hh i3 a3 b3 h3 t3)
  refine turn_gn [z, TO, i1, i2, i3] (List.mem_cons_self ..) (fun c h => by simp only [List.mem_cons, List.not_mem_nil, or_false] at h ⊢; rcases h with h | h | h | h | h <;> simp [h]) (fun i h st c hc => ?_) (fun i h h' st k => ?_) (fun X hP hw hK hc i pins s σ H I st hg => ?_) (fun X hP hw hK hc i pins s σ H I st hg => ?_) fun P w A i s Q E st h => ?_
  · obtain ⟨r1, r2, ⟨x1, x2, x3, r3⟩, q1, q2, q3⟩ := st; rcases (by simpa using hc : c = z ∨ c = TI ∨ c = TO ∨ c = i1 ∨ c = i2 ∨ c = i3) with e | e | e | e | e | e <;> rw [e]
    · exact ⟨_, r1, fun v q => nomatch q⟩
    · exact ⟨_, r2, fun v q => nomatch q⟩
    · exact ⟨_, r3, fun v q => nomatch q⟩
    · exact q1.obj
    · exact q2.obj
    · exact q3.obj
  · obtain ⟨r1, r2, ⟨x1, x2, x3, r3⟩, q1, q2, q3⟩ := st; exact ⟨k z (by simp) _ r1, k TI (by simp) _ r2, ⟨x1, x2, x3, k TO (by simp) _ r3⟩, q1.to fun o q => k i1 (by simp) o q, q2.to fun o q => k i2 (by simp) o q, q3.to fun o q => k i3 (by simp) o q⟩
  · subst hK
    obtain ⟨vs1, vs2, vs3, x1, x2, x3, s1, s2, s3, g1, g2, g3⟩ := hg
    obtain ⟨its1, rv1, hs1, hz1⟩ := s1.has I
    obtain ⟨its2, rv2, hs2, hz2⟩ := s2.has I
    obtain ⟨its3, rv3, hs3, hz3⟩ := s3.has I
    obtain ⟨u1, hu1, ru1⟩ := rv1.get g1
    obtain ⟨u2, hu2, ru2⟩ := rv2.get g2
    obtain ⟨u3, hu3, ru3⟩ := rv3.get g3
    obtain ⟨r1, r2, r3, q1, q2, q3⟩ := st
    refine ⟨_, _, _, _, G (I.ok.hd hc) its1.toArray its2.toArray its3.toArray , ?_, ⟨r1, r2, r3, ⟨q1, hs1⟩, ⟨q2, hs2⟩, q3, hs3⟩, fun h' st' => ?_, fun v h' yy => ?_⟩
    · have k1 := (List.getElem?_eq_some_iff.mp hu1).1; have k2 := (List.getElem?_eq_some_iff.mp hu2).1; have k3 := (List.getElem?_eq_some_iff.mp hu3).1; simp only [List.size_toArray]; omega
    · obtain ⟨m1, m2, m3, ⟨w1, _⟩, ⟨w2, _⟩, w3, _⟩ := st'; exact ⟨m1, m2, m3, w1, w2, w3⟩
    · obtain ⟨T, y1, y2, y3, rfl, hT, hy1, hy2, hy3, hp⟩ := yy
      have d1 := get_vals hy1 hu1
      have d2 := get_vals hy2 hu2
      have d3 := get_vals hy3 hu3
      subst d1 d2 d3
      exact ⟨T, [x1, x2, x3], [y1, y2, y3], rfl, hT, by show 3 ≤ sizeLine; decide, .cons ru1 (.cons ru2 (.cons ru3 .nil)), hp, fun hn => ⟨T, x1, x2, x3, rfl, hn, rfl, fun l hl => by rw [Src.inj I hl s1]; exact g1, fun l hl => by rw [Src.inj I hl s2]; exact g2, fun l hl => by rw [Src.inj I hl s3]; exact g3⟩⟩
  · subst hK
    obtain ⟨vs1, vs2, vs3, s1, s2, s3, hl⟩ := hg
    obtain ⟨its1, rv1, hs1, hz1⟩ := s1.has I
    obtain ⟨its2, rv2, hs2, hz2⟩ := s2.has I
    obtain ⟨its3, rv3, hs3, hz3⟩ := s3.has I
    obtain ⟨r1, r2, r3, q1, q2, q3⟩ := st
    refine ⟨_, _, _, _, G (I.ok.hd hc) its1.toArray its2.toArray its3.toArray , ?_, ⟨r1, r2, r3, ⟨q1, hs1⟩, ⟨q2, hs2⟩, q3, hs3⟩⟩
    rw [List.size_toArray, List.size_toArray, List.size_toArray, ← rv1.length, ← rv2.length, ← rv3.length]; exact hl.symm
  · exact wpAny_pyIter_zip st.1 h

def iZzS2 (K : PySem.W.Frag) (ta : TA) : TI := fun σ H R => ta σ H fun xs H1 => ∃ b1 b2 a1 a2 vs1 vs2, xs = [.ref a1, .ref a2] ∧ Src K H1 b1 a1 vs1 ∧ Src K H1 b2 a2 vs2 ∧ R (ItzS2 K b1 b2 a1 a2) H1
theorem fresh_z2 {X : Cx} {pins : List (Addr × Obj)} {σ : L2.St} {H : Hp} {s : Shared} (I : Inv X pins σ H s) {c : Addr} (hc : c ∈ [s.heap.objs.size + 4, s.heap.objs.size + 2, s.heap.objs.size + 3, s.heap.objs.size, s.heap.objs.size + 1]) : FpOk X pins H c := by
  have hle : s.heap.objs.size ≤ c := by
    simp only [List.mem_cons, List.not_mem_nil, or_false] at hc
    rcases hc with z | z | z | z | z <;> rw [z] <;> first | exact Nat.le_refl _ | exact Nat.le_add_right _ _
  exact I.fpOk hle (I.hok.fresh hle)
theorem pi_zS2 {X : Cx} {e1 e2 : Expr} {ta : TA} {p pos tpos : Pos} {elts : List Expr} {kk : Nat} {kj : Nat} {kc kp : Pos} (hg : Gl X "zip") (hm : X.mg "zip" = none) (ha : PA X [e1, e2] ta) (hs : starEach [e1, e2] X.env = (false, eval e1 X.env) :: starEach [e2] X.env) (hpl : (backTo pos (starEach [e2] X.env)).any (·.1) = false) :
    PI X (.Tuple elts kk tpos) (.Call (.Name "zip" p) [e1, e2] [⟨some (Str.ofString "strict"), .Constant (.bool true) kj kc, kp⟩] pos) (iZzS2 X.K ta) := by
  refine ⟨fun pins s σ H R I h => ?_⟩
  refine wpAny_Call_Name_kw (ld_blt I hg hm boot_zip (callT_kw (thn (ha.run pos pins s σ H _ I h) fun us s1 ⟨xs, H1, I1, r1, b1, b2, a1, a2, vs1, vs2, ex, hq1, hq2, q⟩ => ?_) hs hpl rfl rfl))
  refine kws_cons (Constant_bool (kws_nil ?_))
  subst ex; obtain ⟨u1, u2, rfl, rr1, rr2⟩ := vals2 r1
  cases rr1; cases rr2
  obtain ⟨its1, rv1, p1, _⟩ := hq1.has I1; have l1 := p1.lt
  obtain ⟨its2, rv2, p2, _⟩ := hq2.has I1; have l2 := p2.lt
  show wpAny _ _ (call (.type "zip") [.ref a1, .ref a2] [(Str.ofString "strict", .bool true)]) _ _ _
  refine zipS_begins2 (src_begins b1 a1 its1.toArray) (src_begins b2 a2 its2.toArray) p1 p2 fun h' hz hTI hTO g1 g2 hsz hk => iter_zipS hz ?_
  have I2 : Inv X pins σ H1 { s1 with heap := h' } := I1.kept (t' := s1.toks) hk
  refine ⟨s1.heap.objs.size + 4, [s1.heap.objs.size + 4, s1.heap.objs.size + 2, s1.heap.objs.size + 3, s1.heap.objs.size, s1.heap.objs.size + 1], _, _, H1, rfl, I2, turn_zS2 (zip_sep2 (fun b hb => ?_) (fun b hb => ?_)) (Nat.ne_of_lt l1) (Nat.ne_of_lt (Nat.lt_succ_of_lt l2)), ⟨hz, hTI, ⟨_, _, hTO⟩, SrcIt.new g1, SrcIt.new g2⟩, fun c hc => fresh_z2 I1 hc, q⟩
  · rw [List.mem_singleton.mp hb]; exact l1
  · rw [List.mem_singleton.mp hb]; exact l2
theorem it_zS2 {K : MKx} {H : Hp} {b1 b2 : Bool} {a1 a2 : Addr} {vs1 vs2 : List V} {ds1 ds2 : List PyData} (h1 : SrcF K H b1 a1 vs1) (r1 : RepAll K H vs1 ds1) (h2 : SrcF K H b2 a2 vs2) (r2 : RepAll K H vs2 ds2) (e2 : ds2.length = ds1.length) :
    ItRel K (ItzS2 K b1 b2 a1 a2) ((ds1.zip ds2).map fun p => .tuple [p.1, p.2]) H := fun H1 e => by
  obtain ⟨m1, n1⟩ := Src.repd h1 r1 H1 e
  obtain ⟨m2, n2⟩ := Src.repd h2 r2 H1 e
  refine ⟨fun i d hd => ?_, fun i x H2 _ y => ?_, vs1, vs2, m1, m2, by rw [r2.length, r1.length, e2], by rw [r1.length, List.length_map, List.length_zip, e2, Nat.min_self]⟩
  · rw [List.getElem?_map] at hd; obtain ⟨⟨c1, c2⟩, hd2, _⟩ := Option.map_eq_some_iff.mp hd; obtain ⟨g1, g2⟩ := List.getElem?_zip_eq_some.mp hd2
    obtain ⟨x1, hx1, _⟩ := n1.get g1
    obtain ⟨x2, hx2, _⟩ := n2.get g2
    exact ⟨vs1, vs2, x1, x2, m1, m2, by rw [r2.length, r1.length, e2], hx1, hx2⟩
  · obtain ⟨T, y1, y2, rfl, hn, rfl, yy1, yy2⟩ := y
    obtain ⟨d1, hd1, hr1⟩ := n1.get' (yy1 vs1 m1)
    obtain ⟨d2, hd2, hr2⟩ := n2.get' (yy2 vs2 m2)
    refine ⟨kept_upd hn, .tuple [d1, d2], ?_, .tup (.of upd_same) (.cons (hr1.ext (Ext.upd hn)) (.cons (hr2.ext (Ext.upd hn)) .nil))⟩; rw [List.getElem?_map, (List.getElem?_zip_eq_some (z := (d1, d2))).mpr ⟨hd1, hd2⟩]; rfl

def iZzS3 (K : PySem.W.Frag) (ta : TA) : TI := fun σ H R => ta σ H fun xs H1 => ∃ b1 b2 b3 a1 a2 a3 vs1 vs2 vs3, xs = [.ref a1, .ref a2, .ref a3] ∧ Src K H1 b1 a1 vs1 ∧ Src K H1 b2 a2 vs2 ∧ Src K H1 b3 a3 vs3 ∧ R (ItzS3 K b1 b2 b3 a1 a2 a3) H1
theorem fresh_z3 {X : Cx} {pins : List (Addr × Obj)} {σ : L2.St} {H : Hp} {s : Shared} (I : Inv X pins σ H s) {c : Addr} (hc : c ∈ [s.heap.objs.size + 5, s.heap.objs.size + 3, s.heap.objs.size + 4, s.heap.objs.size, s.heap.objs.size + 1, s.heap.objs.size + 2]) : FpOk X pins H c := by
  have hle : s.heap.objs.size ≤ c := by
    simp only [List.mem_cons, List.not_mem_nil, or_false] at hc
    rcases hc with z | z | z | z | z | z <;> rw [z] <;> first | exact Nat.le_refl _ | exact Nat.le_add_right _ _
  exact I.fpOk hle (I.hok.fresh hle)
theorem pi_zS3 {X : Cx} {e1 e2 e3 : Expr} {ta : TA} {p pos tpos : Pos} {elts : List Expr} {kk : Nat} {kj : Nat} {kc kp : Pos} (hg : Gl X "zip") (hm : X.mg "zip" = none) (ha : PA X [e1, e2, e3] ta) (hs : starEach [e1, e2, e3] X.env = (false, eval e1 X.env) :: starEach [e2, e3] X.env) (hpl : (backTo pos (starEach [e2, e3] X.env)).any (·.1) = false) :
    PI X (.Tuple elts kk tpos) (.Call (.Name "zip" p) [e1, e2, e3] [⟨some (Str.ofString "strict"), .Constant (.bool true) kj kc, kp⟩] pos) (iZzS3 X.K ta) := by
  refine ⟨fun pins s σ H R I h => ?_⟩
  refine wpAny_Call_Name_kw (ld_blt I hg hm boot_zip (callT_kw (thn (ha.run pos pins s σ H _ I h) fun us s1 ⟨xs, H1, I1, r1, b1, b2, b3, a1, a2, a3, vs1, vs2, vs3, ex, hq1, hq2, hq3, q⟩ => ?_) hs hpl rfl rfl))
  refine kws_cons (Constant_bool (kws_nil ?_))
  subst ex; obtain ⟨u1, u2, u3, rfl, rr1, rr2, rr3⟩ := vals_3 r1
  cases rr1; cases rr2; cases rr3
  obtain ⟨its1, rv1, p1, _⟩ := hq1.has I1; have l1 := p1.lt
  obtain ⟨its2, rv2, p2, _⟩ := hq2.has I1; have l2 := p2.lt
  obtain ⟨its3, rv3, p3, _⟩ := hq3.has I1; have l3 := p3.lt
  show wpAny _ _ (call (.type "zip") [.ref a1, .ref a2, .ref a3] [(Str.ofString "strict", .bool true)]) _ _ _
  refine zipS_begins3 (src_begins b1 a1 its1.toArray) (src_begins b2 a2 its2.toArray) (src_begins b3 a3 its3.toArray) p1 p2 p3 fun h' hz hTI hTO g1 g2 g3 hsz hk => iter_zipS hz ?_
  have I2 : Inv X pins σ H1 { s1 with heap := h' } := I1.kept (t' := s1.toks) hk
  refine ⟨s1.heap.objs.size + 5, [s1.heap.objs.size + 5, s1.heap.objs.size + 3, s1.heap.objs.size + 4, s1.heap.objs.size, s1.heap.objs.size + 1, s1.heap.objs.size + 2], _, _, H1, rfl, I2, turn_zS3 (zip_sep3 (fun b hb => ?_) (fun b hb => ?_) (fun b hb => ?_)) (Nat.ne_of_lt l1) (Nat.ne_of_lt (Nat.lt_succ_of_lt l2)) (Nat.ne_of_lt (Nat.lt_succ_of_lt (Nat.lt_succ_of_lt l3))), ⟨hz, hTI, ⟨_, _, _, hTO⟩, SrcIt.new g1, SrcIt.new g2, SrcIt.new g3⟩, fun c hc => fresh_z3 I1 hc, q⟩
  · rw [List.mem_singleton.mp hb]; exact l1
  · rw [List.mem_singleton.mp hb]; exact l2
  · rw [List.mem_singleton.mp hb]; exact l3
theorem it_zS3 {K : MKx} {H : Hp} {b1 b2 b3 : Bool} {a1 a2 a3 : Addr} {vs1 vs2 vs3 : List V} {ds1 ds2 ds3 : List PyData} (h1 : SrcF K H b1 a1 vs1) (r1 : RepAll K H vs1 ds1) (h2 : SrcF K H b2 a2 vs2) (r2 : RepAll K H vs2 ds2) (h3 : SrcF K H b3 a3 vs3) (r3 : RepAll K H vs3 ds3) (e2 : ds2.length = ds1.length) (e3 : ds3.length = ds1.length) :
    ItRel K (ItzS3 K b1 b2 b3 a1 a2 a3) ((ds1.zip (ds2.zip ds3)).map fun p => .tuple [p.1, p.2.1, p.2.2]) H := fun H1 e => by
  obtain ⟨m1, n1⟩ := Src.repd h1 r1 H1 e
  obtain ⟨m2, n2⟩ := Src.repd h2 r2 H1 e
  obtain ⟨m3, n3⟩ := Src.repd h3 r3 H1 e
  refine ⟨fun i d hd => ?_, fun i x H2 _ y => ?_, vs1, vs2, vs3, m1, m2, m3, by rw [r2.length, r1.length, e2], by rw [r3.length, r1.length, e3], by rw [r1.length, List.length_map, List.length_zip, List.length_zip, e2, e3, Nat.min_self, Nat.min_self]⟩
  · rw [List.getElem?_map] at hd; obtain ⟨⟨c1, c2, c3⟩, hd2, _⟩ := Option.map_eq_some_iff.mp hd; obtain ⟨g1, g4⟩ := List.getElem?_zip_eq_some.mp hd2; obtain ⟨g2, g3⟩ := List.getElem?_zip_eq_some.mp g4
    obtain ⟨x1, hx1, _⟩ := n1.get g1
    obtain ⟨x2, hx2, _⟩ := n2.get g2
    obtain ⟨x3, hx3, _⟩ := n3.get g3
    exact ⟨vs1, vs2, vs3, x1, x2, x3, m1, m2, m3, by rw [r2.length, r1.length, e2], by rw [r3.length, r1.length, e3], hx1, hx2, hx3⟩
  · obtain ⟨T, y1, y2, y3, rfl, hn, rfl, yy1, yy2, yy3⟩ := y
    obtain ⟨d1, hd1, hr1⟩ := n1.get' (yy1 vs1 m1)
    obtain ⟨d2, hd2, hr2⟩ := n2.get' (yy2 vs2 m2)
    obtain ⟨d3, hd3, hr3⟩ := n3.get' (yy3 vs3 m3)
    refine ⟨kept_upd hn, .tuple [d1, d2, d3], ?_, .tup (.of upd_same) (.cons (hr1.ext (Ext.upd hn)) (.cons (hr2.ext (Ext.upd hn)) (.cons (hr3.ext (Ext.upd hn)) .nil)))⟩; rw [List.getElem?_map, (List.getElem?_zip_eq_some (z := (d1, (d2, d3)))).mpr ⟨hd1, (List.getElem?_zip_eq_some (z := (d2, d3))).mpr ⟨hd2, hd3⟩⟩]; rfl

def iZz3 (K : PySem.W.Frag) (ta : TA) : TI := fun σ H R => ta σ H fun xs H1 => ∃ b1 b2 b3 a1 a2 a3 vs1 vs2 vs3, xs = [.ref a1, .ref a2, .ref a3] ∧ Src K H1 b1 a1 vs1 ∧ Src K H1 b2 a2 vs2 ∧ Src K H1 b3 a3 vs3 ∧ R (Itz3 K b1 b2 b3 a1 a2 a3) H1
theorem pi_z3 {X : Cx} {e1 e2 e3 : Expr} {ta : TA} {p pos tpos : Pos} {elts : List Expr} {kk : Nat} (hg : Gl X "zip") (hm : X.mg "zip" = none) (ha : PA X [e1, e2, e3] ta) (hs : starEach [e1, e2, e3] X.env = (false, eval e1 X.env) :: starEach [e2, e3] X.env) (hpl : (backTo pos (starEach [e2, e3] X.env)).any (·.1) = false) :
    PI X (.Tuple elts kk tpos) (.Call (.Name "zip" p) [e1, e2, e3] [] pos) (iZz3 X.K ta) := by
  refine ⟨fun pins s σ H R I h => ?_⟩
  refine Call_ (ld_blt I hg hm boot_zip (callWith_type1 (thn (ha.run pos pins s σ H _ I h) fun us s1 ⟨xs, H1, I1, r1, b1, b2, b3, a1, a2, a3, vs1, vs2, vs3, ex, hq1, hq2, hq3, q⟩ => ?_) hs hpl))
  subst ex; obtain ⟨u1, u2, u3, rfl, rr1, rr2, rr3⟩ := vals_3 r1
  cases rr1; cases rr2; cases rr3
  obtain ⟨its1, rv1, p1, _⟩ := hq1.has I1; have l1 := p1.lt
  obtain ⟨its2, rv2, p2, _⟩ := hq2.has I1; have l2 := p2.lt
  obtain ⟨its3, rv3, p3, _⟩ := hq3.has I1; have l3 := p3.lt
  refine zip_begins3 (src_begins b1 a1 its1.toArray) (src_begins b2 a2 its2.toArray) (src_begins b3 a3 its3.toArray) p1 p2 p3 fun h' hz hTI hTO g1 g2 g3 hsz hk => wpAny_pyIter_zip hz ?_
  have I2 : Inv X pins σ H1 { s1 with heap := h' } := I1.kept (t' := s1.toks) hk
  refine ⟨s1.heap.objs.size + 5, [s1.heap.objs.size + 5, s1.heap.objs.size + 3, s1.heap.objs.size + 4, s1.heap.objs.size, s1.heap.objs.size + 1, s1.heap.objs.size + 2], _, _, H1, rfl, I2, turn_z3 (zip_sep3 (fun b hb => ?_) (fun b hb => ?_) (fun b hb => ?_)) (Nat.ne_of_lt l1) (Nat.ne_of_lt (Nat.lt_succ_of_lt l2)) (Nat.ne_of_lt (Nat.lt_succ_of_lt (Nat.lt_succ_of_lt l3))), ⟨hz, hTI, ⟨_, _, _, hTO⟩, SrcIt.new g1, SrcIt.new g2, SrcIt.new g3⟩, fun c hc => fresh_z3 I1 hc, q⟩
  · rw [List.mem_singleton.mp hb]; exact l1
  · rw [List.mem_singleton.mp hb]; exact l2
  · rw [List.mem_singleton.mp hb]; exact l3
theorem it_z3 {K : MKx} {H : Hp} {b1 b2 b3 : Bool} {a1 a2 a3 : Addr} {vs1 vs2 vs3 : List V} {ds1 ds2 ds3 : List PyData} (h1 : SrcF K H b1 a1 vs1) (r1 : RepAll K H vs1 ds1) (h2 : SrcF K H b2 a2 vs2) (r2 : RepAll K H vs2 ds2) (h3 : SrcF K H b3 a3 vs3) (r3 : RepAll K H vs3 ds3)  :
    ItRel K (Itz3 K b1 b2 b3 a1 a2 a3) ((ds1.zip (ds2.zip ds3)).map fun p => .tuple [p.1, p.2.1, p.2.2]) H := fun H1 e => by
  obtain ⟨m1, n1⟩ := Src.repd h1 r1 H1 e
  obtain ⟨m2, n2⟩ := Src.repd h2 r2 H1 e
  obtain ⟨m3, n3⟩ := Src.repd h3 r3 H1 e
  refine ⟨fun i d hd => ?_, fun i x H2 _ y => ?_, vs1, vs2, vs3, m1, m2, m3, by rw [r1.length, r2.length, r3.length, List.length_map, List.length_zip, List.length_zip, Nat.min_assoc]⟩
  · rw [List.getElem?_map] at hd; obtain ⟨⟨c1, c2, c3⟩, hd2, _⟩ := Option.map_eq_some_iff.mp hd; obtain ⟨g1, g4⟩ := List.getElem?_zip_eq_some.mp hd2; obtain ⟨g2, g3⟩ := List.getElem?_zip_eq_some.mp g4
    obtain ⟨x1, hx1, _⟩ := n1.get g1
    obtain ⟨x2, hx2, _⟩ := n2.get g2
    obtain ⟨x3, hx3, _⟩ := n3.get g3
    exact ⟨vs1, vs2, vs3, x1, x2, x3, m1, m2, m3, hx1, hx2, hx3⟩
  · obtain ⟨T, y1, y2, y3, rfl, hn, rfl, yy1, yy2, yy3⟩ := y
    obtain ⟨d1, hd1, hr1⟩ := n1.get' (yy1 vs1 m1)
    obtain ⟨d2, hd2, hr2⟩ := n2.get' (yy2 vs2 m2)
    obtain ⟨d3, hd3, hr3⟩ := n3.get' (yy3 vs3 m3)
    refine ⟨kept_upd hn, .tuple [d1, d2, d3], ?_, .tup (.of upd_same) (.cons (hr1.ext (Ext.upd hn)) (.cons (hr2.ext (Ext.upd hn)) (.cons (hr3.ext (Ext.upd hn)) .nil)))⟩; rw [List.getElem?_map, (List.getElem?_zip_eq_some (z := (d1, (d2, d3)))).mpr ⟨hd1, (List.getElem?_zip_eq_some (z := (d2, d3))).mpr ⟨hd2, hd3⟩⟩]; rfl

end MP

/-! MP: results are fixed. -/
namespace MP
open PySem PySem.Spec PyProof.Rows L2

/-- the datum of a result -/
def ValIs (ρ : Env) : Res → PyData → Prop
  | .sh d', d => d' = d
  | .own d', d => d' = d
  | .bor i, d => ∃ b, ρ[i]? = some (some (b, d))
inductive ValsIs (ρ : Env) : List Res → List PyData → Prop where
  | nil : ValsIs ρ [] []
  | cons {r d rs ds} : ValIs ρ r d → ValsIs ρ rs ds → ValsIs ρ (r :: rs) (d :: ds)
section
variable {K : MKx} {σ : L2.St} {ρ ρ' ρ0 : Env} {H H' H0 : Hp}
theorem valIs_of {r : Res} {d : PyData} (e : valOf ρ r = some d) : ValIs ρ r d := by
  cases r with
  | sh d' =>
    cases e
    exact rfl
  | own d' =>
    cases e
    exact rfl
  | bor i => exact ⟨true, valOf_bor e⟩
theorem valsIs_of : ∀ {rs : List Res} {ds : List PyData}, valsOf ρ rs = some ds → ValsIs ρ rs ds
  | [], ds, e => by
    cases e
    exact .nil
  | r :: rs, ds, e => by
    unfold valsOf at e
    split at e
    · rename_i d ds' h1 h2
      cases e
      exact .cons (valIs_of h1) (valsIs_of h2)
    · cases e
theorem frzR_at {r : Res} {i : Nat} {b : Bool} {d : PyData} (h : ρ[i]? = some (some (b, d))) : ∃ b', (frzR ρ r)[i]? = some (some (b', d)) := by
  unfold frzR
  split
  · rename_i j
    split
    · rename_i d' hj
      by_cases e : j = i
      · subst e
        rw [h] at hj
        cases hj
        exact ⟨false, by rw [List.getElem?_set_self (List.getElem?_eq_some_iff.mp h).1]⟩
      · exact ⟨b, by rw [List.getElem?_set_ne e, h]⟩
    · exact ⟨b, h⟩
  · exact ⟨b, h⟩
theorem ValIs.frz {r r' : Res} {d : PyData} (h : ValIs ρ r d) : ValIs (frzR ρ r') r d := by
  cases r with
  | sh d' => exact h
  | own d' => exact h
  | bor i =>
    obtain ⟨b, h⟩ := h
    exact frzR_at h
theorem ValsIs.frz {r' : Res} : ∀ {rs : List Res} {ds : List PyData}, ValsIs ρ rs ds → ValsIs (frzR ρ r') rs ds
  | _, _, .nil => .nil
  | _, _, .cons a b => .cons a.frz b.frz
theorem Ext.frz {p : Addr} {ys : List V} {o : HO} (h : H p = some (.lst ys)) : Ext H (L2.upd H p o) := fun a => by
  by_cases e : a = p
  · subst e
    refine ⟨fun xs q => ?_, fun o u q => ?_⟩ <;>
    · rw [h] at q
      cases q
  · rw [upd_ne e]
    exact ⟨fun _ q => q, fun _ _ q => q⟩
/-- a new list is locked -/
theorem Stp.lockN {σ0 : L2.St} {p : Addr} {ys : List V} {o : Obj} (a : Stp K σ0 ρ0 H0 σ ρ H) (h : H p = some (.lst ys)) (h0 : H0 p = none) (hn : ¬ Owned σ ρ p) : Stp K σ0 ρ0 H0 σ ρ (upd H p (.frz o (.lst ys))) := by
  have ex : Ext H (upd H p (.frz o (.lst ys))) := Ext.frz h
  refine ⟨⟨a.env.len, fun i d e => ?_, fun i d e => ?_, a.env.inj⟩, fun b ob e n => ?_, a.less, fun b ob e => ?_⟩
  · obtain ⟨x, h1, h2⟩ := a.env.sh i d e
    exact ⟨x, h1, h2.ext ex⟩
  · obtain ⟨q, ds, h1, h2, xs, h3, h4⟩ := a.env.own i d e
    have hq : q ≠ p := fun z => hn ⟨i, d, e, by rw [← z]; exact h1⟩
    exact ⟨q, ds, h1, h2, xs, by rw [upd_ne hq]; exact h3, h4.ext ex⟩
  · rw [upd_ne (fun z => by rw [z, h0] at e; cases e)]
    exact a.keep b ob e n
  · rw [upd_ne (fun z => by rw [z, h0] at e; cases e)]
    exact a.there b ob e
/-- an owned slot's list is locked -/
theorem Stp.lockB {σ0 : L2.St} {i : Nat} {d : PyData} {p : Addr} {ys : List V} {o : Obj} (a : Stp K σ0 ρ0 H0 σ ρ H) (hi : ρ[i]? = some (some (true, d))) (hs : σ[i]? = some (some (V.ref p))) (h : H p = some (.lst ys)) (hns : p ≠ sysModules) :
    Stp K σ0 ρ0 H0 σ (ρ.set i (some (false, d))) (upd H p (.frz o (.lst ys))) ∧ Rep K (upd H p (.frz o (.lst ys))) (.ref p) d := by
  have ex : Ext H (upd H p (.frz o (.lst ys))) := Ext.frz h
  have hil : i < ρ.length := (List.getElem?_eq_some_iff.mp hi).1
  have hr : Rep K (upd H p (.frz o (.lst ys))) (.ref p) d := by
    obtain ⟨q, ds, h1, rfl, xs, h3, h4⟩ := a.env.own i d hi
    rw [hs] at h1
    cases h1
    rw [h] at h3
    cases h3
    exact .lst upd_same hns (h4.ext ex)
  have at' : ∀ {j : Nat} {e : PyData}, (ρ.set i (some (false, d)))[j]? = some (some (true, e)) → j ≠ i ∧ ρ[j]? = some (some (true, e)) := fun {j e} q => by
    by_cases z : i = j
    · subst z
      rw [List.getElem?_set_self hil] at q
      cases q
    · rw [List.getElem?_set_ne z] at q
      exact ⟨fun w => z w.symm, q⟩
  refine ⟨⟨⟨by rw [List.length_set]; exact a.env.len, fun j e q => ?_, fun j e q => ?_, fun j k e f q h1 h2 h3 h4 => a.env.inj j k e f q (at' h1).2 (at' h2).2 h3 h4⟩, fun b ob e n => ?_, fun b ⟨j, e, h1, h2⟩ => a.less b ⟨j, e, (at' h1).2, h2⟩, fun b ob e => ?_⟩, hr⟩
  · by_cases z : i = j
    · subst z
      rw [List.getElem?_set_self hil] at q
      cases q
      exact ⟨_, hs, hr⟩
    · rw [List.getElem?_set_ne z] at q
      obtain ⟨x, h1, h2⟩ := a.env.sh j e q
      exact ⟨x, h1, h2.ext ex⟩
  · obtain ⟨z, q⟩ := at' q
    obtain ⟨q', ds, h1, h2, xs, h3, h4⟩ := a.env.own j e q
    have hq : q' ≠ p := fun w => z (a.env.inj j i e d p q hi (by rw [← w]; exact h1) hs)
    exact ⟨q', ds, h1, h2, xs, by rw [upd_ne hq]; exact h3, h4.ext ex⟩
  · by_cases z : b = p
    · exact absurd (a.less p ⟨i, d, hi, hs⟩) (z ▸ n)
    · rw [upd_ne z]
      exact a.keep b ob e n
  · by_cases z : b = p
    · exact ⟨_, by rw [z]; exact upd_same⟩
    · rw [upd_ne z]
      exact a.there b ob e
theorem ResAll.locked {p : Addr} {ys : List V} {o : HO} (h : H p = some (.lst ys)) : ∀ {rs : List Res} {xs : List V}, ResAll K σ H0 H rs xs → p ∉ owns rs xs → ResAll K σ H0 (upd H p o) rs xs
  | _, _, .nil, _ => .nil
  | _, _, .cons (r := r) (rs := rs) a b, n => by
    cases r with
    | sh d => exact .cons (Rep.ext (Ext.frz h) a) (ResAll.locked h b (by simpa [owns] using n))
    | bor i => exact .cons a (ResAll.locked h b (by simpa [owns] using n))
    | own d =>
      obtain ⟨q, ds, rfl, e2, ⟨zs, h3, h4⟩, h5⟩ := a
      simp only [owns, List.mem_cons, not_or] at n
      exact .cons ⟨q, ds, rfl, e2, ⟨zs, by rw [upd_ne (fun z => n.1 z.symm)]; exact h3, h4.ext (Ext.frz h)⟩, h5⟩ (ResAll.locked h b n.2)
/-- results are fixed, one behind the other -/
theorem frz_run {σ0 : L2.St} {Q : Hp → Prop} : ∀ {rs : List Res} {xs : List V} {ds : List PyData} {ρ : Env} {H : Hp}, EnvRel K σ0 ρ0 H0 → Stp K σ0 ρ0 H0 σ ρ H → ResAll K σ H0 H rs xs → (owns rs xs).Nodup → (∀ p ∈ owns rs xs, ¬ Owned σ ρ p) → ValsIs ρ rs ds →
    (∀ H', Ext H H' → Stp K σ0 ρ0 H0 σ (frzRs ρ rs) H' → RepAll K H' xs ds → Q H') → Lk Q H
  | _, _, _, _, H, R, a, .nil, _, _, .nil, k => .done (k H (Ext.refl H) a .nil)
  | _, _, _, ρ, H, R, a, .cons (r := r) (x := x) (rs := rs) (xs := xs) r1 rr, nd, no, .cons (d := d) (ds := ds) v1 vr, k => by
    cases r with
    | sh d' =>
      cases v1
      exact frz_run R a rr (by simpa [owns] using nd) (fun p hp => no p (by simpa [owns] using hp)) vr fun H' ex st ra => k H' ex st (.cons (Rep.ext ex r1) ra)
    | own d' =>
      cases v1
      obtain ⟨p, es, rfl, rfl, ⟨ys, h1, h2⟩, h3⟩ := r1
      simp only [owns, List.nodup_cons] at nd
      have hp : ¬ Owned σ ρ p := no p (by simp [owns])
      refine .lock p ys h1 fun o hns => ?_
      have ex0 : Ext H (upd H p (.frz o (.lst ys))) := Ext.frz h1
      have a' := a.lockN (o := o) h1 h3 hp
      refine frz_run R a' (rr.locked h1 nd.1) nd.2 (fun q hq => no q (by simp only [owns, List.mem_cons]; exact .inr hq)) vr fun H' ex st ra => k H' (ex0.trans ex) st (.cons ?_ ra)
      exact .lst ((ex p).2 _ _ upd_same) hns (h2.ext (ex0.trans ex))
    | bor i =>
      obtain ⟨p, rfl, hs⟩ := r1
      obtain ⟨b, hi⟩ := v1
      cases b with
      | true =>
        obtain ⟨q, es, h1, rfl, ys, h2, h3⟩ := a.env.own i d hi
        rw [hs] at h1
        cases h1
        refine .lock p ys h2 fun o hns => ?_
        have ex0 : Ext H (upd H p (.frz o (.lst ys))) := Ext.frz h2
        obtain ⟨a', rp⟩ := a.lockB (o := o) hi hs h2 hns
        have hpn : p ∉ owns rs xs := fun z => no p (by simpa [owns] using z) ⟨i, _, hi, hs⟩
        have ef : frzR ρ (.bor i) = ρ.set i (some (false, .list es)) := by
          unfold frzR
          simp only [hi]
        refine frz_run R a' (rr.locked h2 hpn) (by simpa [owns] using nd) (fun q hq w => no q (by simpa [owns] using hq) ?_) (by rw [← ef]; exact vr.frz) fun H' ex st ra => k H' (ex0.trans ex) ?_ (.cons (rp.ext ex) ra)
        · obtain ⟨j, e, g1, g2⟩ := w
          by_cases z : i = j
          · subst z
            rw [List.getElem?_set_self (List.getElem?_eq_some_iff.mp hi).1] at g1
            cases g1
          · rw [List.getElem?_set_ne z] at g1
            exact ⟨j, e, g1, g2⟩
        · show Stp K σ0 ρ0 H0 σ (frzRs (frzR ρ (.bor i)) rs) H'
          rw [ef]
          exact st
      | false =>
        have ef : frzR ρ (.bor i) = ρ := by
          unfold frzR
          simp only [hi]
        obtain ⟨x, h1, h2⟩ := a.env.sh i d hi
        rw [hs] at h1
        cases h1
        refine frz_run R a rr (by simpa [owns] using nd) (fun p hp => no p (by simpa [owns] using hp)) vr fun H' ex st ra => k H' ex ?_ (.cons (h2.ext ex) ra)
        show Stp K σ0 ρ0 H0 σ (frzRs (frzR ρ (.bor i)) rs) H'
        rw [ef]
        exact st
theorem not_owned {ρ1 : Env} {H1 : Hp} (R : EnvRel K σ ρ H) (a : Out K σ ρ H ρ1 H1) {rs : List Res} {xs : List V} (r : ResAll K σ H H1 rs xs) : ∀ p ∈ owns rs xs, ¬ Owned σ ρ1 p := fun p hp z => by
  obtain ⟨ys, q⟩ := R.owned (a.less p z)
  rw [(r.owns_at p hp).1] at q
  cases q
/-- arguments are fixed -/
theorem frz_args {Q : Hp → Prop} {ρ1 : Env} {H1 : Hp} {rs : List Res} {xs : List V} {ds : List PyData} (R : EnvRel K σ ρ H) (a : Out K σ ρ H ρ1 H1) (r : ResAll K σ H H1 rs xs) (nd : (owns rs xs).Nodup) (v : valsOf ρ1 rs = some ds)
    (k : ∀ H', Ext H1 H' → Out K σ ρ H (frzRs ρ1 rs) H' → RepAll K H' xs ds → Q H') : Lk Q H1 :=
  frz_run R a r nd (not_owned R a r) (valsIs_of v) k
/-- one result is fixed -/
theorem frz_one {Q : Hp → Prop} {ρ1 : Env} {H1 : Hp} {r : Res} {x : V} {d : PyData} (R : EnvRel K σ ρ H) (a : Out K σ ρ H ρ1 H1) (h : ResRel K σ H H1 r x) (v : valOf ρ1 r = some d)
    (k : ∀ H', Ext H1 H' → Out K σ ρ H (frzR ρ1 r) H' → Rep K H' x d → Q H') : Lk Q H1 := by
  have ha : ResAll K σ H H1 [r] [x] := .cons h .nil
  refine frz_args (ds := [d]) R a ha ?_ (by unfold valsOf; simp only [v, valsOf]) fun H' ex st ra => ?_
  · cases r with
    | own e =>
      obtain ⟨p, ds, rfl, _⟩ := h
      simp [owns]
    | sh e => simp [owns]
    | bor i => simp [owns]
  · cases ra with
    | cons g _ => exact k H' ex st g
end
end MP

/-! MP: targets, comprehensions. -/
namespace MP
open PySem PySem.Spec PyProof.Rows L2

theorem compTurn_last (elt : Expr) (gens : List Comprehension) (scope : Scope) (pos : Pos) (k : Nat) (it acc : Value) (env : PySem.Env) {tg iter : Expr} {ifs : List Expr} (hk : gens[k]? = some ⟨tg, iter, ifs, 0⟩) (hk1 : gens[k + 1]? = none) :
    compTurn (.ListComp elt gens scope pos) k it acc env = (do
      standAt iter.pos
      match ← pyNext it with
      | none => pure (.done .next)
      | some v =>
        letOwnedTupleGo tg it v
        assign tg env v
        let mut ok := true
        for c in ifs do
          if ok then ok ← isTrue c env (eval c env)
        if ok then
          (do let _ ← call (.builtin "list.append") [acc, ← eval elt env])
        again (.compLoop (.ListComp elt gens scope pos) k it acc env)) := by
  unfold compTurn
  simp only [hk, hk1]
  rfl
theorem compTurn_more (elt : Expr) (gens : List Comprehension) (scope : Scope) (pos : Pos) (k : Nat) (it acc : Value) (env : PySem.Env) {tg iter tg1 iter1 : Expr} {ifs ifs1 : List Expr} (hk : gens[k]? = some ⟨tg, iter, ifs, 0⟩) (hk1 : gens[k + 1]? = some ⟨tg1, iter1, ifs1, 0⟩) :
    compTurn (.ListComp elt gens scope pos) k it acc env = (do
      standAt iter.pos
      match ← pyNext it with
      | none => pure (.done .next)
      | some v =>
        letOwnedTupleGo tg it v
        assign tg env v
        let mut ok := true
        for c in ifs do
          if ok then ok ← isTrue c env (eval c env)
        if ok then
          let x ← eval iter1 env
          standAt iter1.pos
          let x ← foldedSetIterable iter1 env x
          let _ ← runOwn (.compStart (.ListComp elt gens scope pos) (k + 1) (← holding [x] (pyIter x)) acc env) env
        again (.compLoop (.ListComp elt gens scope pos) k it acc env)) := by
  unfold compTurn
  simp only [hk, hk1]
  rfl

section
variable {prog : Program} {w : World} {A : Around} {R : Result → Shared → Prop} {s : Shared} {elt tg iter tg1 iter1 : Expr} {ifs ifs1 : List Expr} {gens : List Comprehension} {scope : Scope} {pos : Pos} {k : Nat} {it acc : Value} {env : PySem.Env}
abbrev tests (ifs : List Expr) (env : PySem.Env) : Sem Bool := forIn ifs true fun c r => if r = true then do let ok ← isTrue c env (eval c env); pure (ForInStep.yield ok) else pure (ForInStep.yield r)
abbrev EndsIn (R : Result → Shared → Prop) (prog : Program) (w : World) (A : Around) (env : PySem.Env) : Value → Shared → Prop := notedBy (model prog w) A env fun e s' => R (.error e) s'
/-- a clause's loop: the last clause -/
theorem loop_last (hk : gens[k]? = some ⟨tg, iter, ifs, 0⟩) (hk1 : gens[k + 1]? = none) (I : Nat → Shared → Prop)
    (turn : ∀ n s, I n s → wpAny (model prog w) A (pyNext it) (fun r s1 => match r with
      | none => R (.ok .next) s1
      | some v => wpAny (model prog w) A (letOwnedTupleGo tg it v) (fun _ s2 => wpAny (model prog w) A (assign tg env v) (fun _ s3 => wpAny (model prog w) A (tests ifs env) (fun ok s4 =>
          if ok = true then wpAny (model prog w) A (do let _ ← call (.builtin "list.append") [acc, ← eval elt env]) (fun _ s5 => ∃ m, m < n ∧ I m s5) (EndsIn R prog w A env) s4 else ∃ m, m < n ∧ I m s4)
          (EndsIn R prog w A env) s3) (EndsIn R prog w A env) s2) (EndsIn R prog w A env) s1) (EndsIn R prog w A env) s)
    (n : Nat) (h : I n s) : codeAny (model prog w) A (.compLoop (.ListComp elt gens scope pos) k it acc env) R s := by
  refine codeAny_loop rfl I (fun n s hI => ?_) n h
  show wpAny _ A ((compTurn (.ListComp elt gens scope pos) k it acc env).onRaise (fun x => do noteFrame x env; theTreesLotGoes x)) _ _ s
  refine wpAny_noted ?_
  rw [compTurn_last _ _ _ _ _ _ _ _ hk hk1]
  refine wpAny_bind (wpAny_standAt (wpAny_bind (wpAny_mono (turn n s hI) (fun r s1 h1 => ?_) fun _ _ z => z)))
  cases r with
  | none => exact wpAny_pure h1
  | some v =>
    refine wpAny_bind (wpAny_mono h1 (fun _ s2 h2 => wpAny_bind (wpAny_mono h2 (fun _ s3 h3 => wpAny_bind (wpAny_mono h3 (fun ok s4 h4 => ?_) fun _ _ z => z)) fun _ _ z => z)) fun _ _ z => z)
    cases ok with
    | false => exact wpAny_pure ⟨rfl, h4⟩
    | true => exact wpAny_bind (wpAny_mono h4 (fun _ s5 h5 => wpAny_pure ⟨rfl, h5⟩) fun _ _ z => z)
/-- .. another clause behind it -/
theorem loop_more (hk : gens[k]? = some ⟨tg, iter, ifs, 0⟩) (hk1 : gens[k + 1]? = some ⟨tg1, iter1, ifs1, 0⟩) (hs : ∀ x, foldedSetIterable iter1 env x = pure x) (I : Nat → Shared → Prop)
    (turn : ∀ n s, I n s → wpAny (model prog w) A (pyNext it) (fun r s1 => match r with
      | none => R (.ok .next) s1
      | some v => wpAny (model prog w) A (letOwnedTupleGo tg it v) (fun _ s2 => wpAny (model prog w) A (assign tg env v) (fun _ s3 => wpAny (model prog w) A (tests ifs env) (fun ok s4 =>
          if ok = true then wpAny (model prog w) A (eval iter1 env) (fun x s5 => wpAny (model prog w) A (pyIter x) (fun it1 s6 =>
            codeAny (model prog w) A (.compStart (.ListComp elt gens scope pos) (k + 1) it1 acc env) (fun r s' => match r with
              | .ok _ => ∃ m, m < n ∧ I m s'
              | .error _ => False) s6) (EndsIn R prog w A env) s5) (EndsIn R prog w A env) s4 else ∃ m, m < n ∧ I m s4)
          (EndsIn R prog w A env) s3) (EndsIn R prog w A env) s2) (EndsIn R prog w A env) s1) (EndsIn R prog w A env) s)
    (n : Nat) (h : I n s) : codeAny (model prog w) A (.compLoop (.ListComp elt gens scope pos) k it acc env) R s := by
  refine codeAny_loop rfl I (fun n s hI => ?_) n h
  show wpAny _ A ((compTurn (.ListComp elt gens scope pos) k it acc env).onRaise (fun x => do noteFrame x env; theTreesLotGoes x)) _ _ s
  refine wpAny_noted ?_
  rw [compTurn_more _ _ _ _ _ _ _ _ hk hk1]
  refine wpAny_bind (wpAny_standAt (wpAny_bind (wpAny_mono (turn n s hI) (fun r s1 h1 => ?_) fun _ _ z => z)))
  cases r with
  | none => exact wpAny_pure h1
  | some v =>
    refine wpAny_bind (wpAny_mono h1 (fun _ s2 h2 => wpAny_bind (wpAny_mono h2 (fun _ s3 h3 => wpAny_bind (wpAny_mono h3 (fun ok s4 h4 => ?_) fun _ _ z => z)) fun _ _ z => z)) fun _ _ z => z)
    cases ok with
    | false => exact wpAny_pure ⟨rfl, h4⟩
    | true =>
      refine wpAny_bind (wpAny_mono h4 (fun x s5 h5 => ?_) fun _ _ z => z)
      refine wpAny_bind (wpAny_standAt (wpAny_bind (wpAny_of_eq (hs x) (wpAny_bind (wpAny_holding (wpAny_mono h5 (fun it1 s6 h6 => ?_) fun _ _ z => z))))))
      refine wpAny_bind (wpAny_runOwn ?_)
      rw [Around.mark_none]
      refine codeAny_mono h6 fun r s' hr => ?_
      cases r with
      | ok f =>
        first
          | exact wpAny_pure ⟨rfl, hr⟩
          | exact wpAny_bind (wpAny_pure (wpAny_pure ⟨rfl, hr⟩))
      | error e => exact hr.elim
/-- a clause's start -/
theorem start_of (hk : gens[k]? = some ⟨tg, iter, ifs, 0⟩) (h0 : codeAny (model prog w) A (.compLoop (.ListComp elt gens scope pos) k it acc env) R s)
    (h : wpAny (model prog w) A (pyIter it) (fun it' s' => codeAny (model prog w) A (.compLoop (.ListComp elt gens scope pos) k it' acc env) R s') (EndsIn R prog w A env) s) :
    codeAny (model prog w) A (.compStart (.ListComp elt gens scope pos) k it acc env) R s := by
  refine codeAny_of_tree ?_
  show wpAny _ _ ((compStart (.ListComp elt gens scope pos) k it acc env).onRaise (fun x => do noteFrame x env; standAt theWindowsPlace)) _ _ s
  refine wpAny_notedAt ?_
  unfold compStart
  have hc : (clausesOf (.ListComp elt gens scope pos))[k]? = some ⟨tg, iter, ifs, 0⟩ := hk
  rw [hc]
  show wpAny _ _ (ask >>= _) _ _ s
  refine wpAny_bind (wpAny_askSetting (wpAny_ite ?_))
  split
  · first
      | exact wpAny_bind (wpAny_pure (wpAny_pure (And.intro rfl h0)))
      | exact wpAny_pure (And.intro rfl h0)
  · first
      | exact wpAny_bind (wpAny_rule (wpAny_bind (wpAny_standAt (wpAny_bind (wpAny_mono h (fun it' s' h' => wpAny_pure (And.intro rfl h')) fun _ _ x => x)))))
      | (refine wpAny_bind (wpAny_rule ?_); show wpAny _ _ (standAt iter.pos >>= _) _ _ s; exact wpAny_bind (wpAny_standAt (wpAny_bind (wpAny_mono h (fun it' s' h' => wpAny_pure (And.intro rfl h')) fun _ _ x => x))))
end

/-! ### what is checked -/
structure Ck where
  N : List Str
  sc : Scope
  fnb : Str → Bool
  fs : List Str
  gl : List (Str × PyData)
def locB (c : Ck) (x : Str) : Bool := match c.sc.names.lookup x with
  | some .local => true
  | some .cell => c.fnb x
  | _ => false
def visB (c : Ck) (x : Str) : Bool := match c.sc.names.lookup x with
  | some .local => true
  | some .cell => true
  | some .free => true
  | _ => false
def glB (c : Ck) (x : Str) : Bool := match c.sc.names.lookup x with
  | some .globalImplicit => true
  | _ => false
def ns : Expr → Bool
  | .Starred _ _ => false
  | _ => true
theorem star_cons {e : Expr} {es : List Expr} {env : PySem.Env} (h : ns e = true) : starEach (e :: es) env = (false, eval e env) :: starEach es env := by
  cases e <;> first | rfl | cases h
theorem asg_cons {e : Expr} {es : List Expr} {env : PySem.Env} (h : ns e = true) : assignEach (e :: es) env = (false, assign e env) :: assignEach es env := by
  cases e <;> first | rfl | cases h
theorem star_plain {env : PySem.Env} {pos : Pos} : ∀ {es : List Expr}, es.all ns = true → (backTo pos (starEach es env)).any (·.1) = false
  | [], _ => rfl
  | e :: es, h => by
    rw [List.all_cons, Bool.and_eq_true] at h
    rw [star_cons h.1]
    show (false || (backTo pos (starEach es env)).any (·.1)) = false
    rw [star_plain h.2]
    rfl
theorem asg_len {env : PySem.Env} : ∀ {es : List Expr}, es.all ns = true → (assignEach es env).length = es.length ∧ (assignEach es env).findIdx? (·.1) = none
  | [], _ => ⟨rfl, rfl⟩
  | e :: es, h => by
    rw [List.all_cons, Bool.and_eq_true] at h
    rw [asg_cons h.1]
    obtain ⟨h1, h2⟩ := asg_len (env := env) h.2
    refine ⟨by rw [List.length_cons, List.length_cons, h1], ?_⟩
    rw [List.findIdx?_cons]
    simp [h2]
mutual
/-- the slots of a target -/
def Tg.slots : Tg → List Nat
  | .var i => [i]
  | .tup ts => Tgs.slots ts
def Tgs.slots : Tgs → List Nat
  | .nil => []
  | .cons t r => Tg.slots t ++ Tgs.slots r
end
mutual
def chkT (c : Ck) : Tg → Expr → Bool
  | .var i, .Name x _ => decide (c.N[i]? = some x) && locB c x
  | .tup ts, .Tuple es _ _ => es.all ns && chkTs c ts es
  | _, _ => false
def chkTs (c : Ck) : Tgs → List Expr → Bool
  | .nil, [] => true
  | .cons t r, e :: es => chkT c t e && chkTs c r es
  | _, _ => false
end
/-- what is known of the context -/
structure Gd0 (c : Ck) (X : Cx) : Prop where
  n : X.N = c.N
  nd : X.N.Nodup
  sc : X.env.scope = c.sc
  fn : ∀ x, c.fnb x = true → X.fn x = true
  calm : X.calm = true
  sys : Sys X
theorem Gd0.loc {c : Ck} {X : Cx} (G : Gd0 c X) {x : Str} (h : locB c x = true) : L2.Loc X.env.scope x ∧ (X.fn x = true ∨ X.env.scope.names.lookup x = some .local) := by
  unfold locB at h
  unfold L2.Loc
  rw [G.sc]
  split at h
  · rename_i e
    exact ⟨.inl e, .inr e⟩
  · rename_i e
    exact ⟨.inr e, .inl (G.fn x h)⟩
  · cases h
theorem Gd0.vis {c : Ck} {X : Cx} (G : Gd0 c X) {x : Str} (h : visB c x = true) : Vis X.env.scope x := by
  unfold visB at h
  unfold Vis
  rw [G.sc]
  split at h
  · exact .inl (by assumption)
  · exact .inr (.inl (by assumption))
  · exact .inr (.inr (by assumption))
  · cases h
theorem Gd0.gl {c : Ck} {X : Cx} (G : Gd0 c X) {x : Str} (h : glB c x = true) : Gl X x := by
  unfold glB at h
  unfold Gl Env.kindOf
  rw [G.sc]
  split at h
  · assumption
  · cases h
/-- all other slots as they were -/
def Fr (own : List Nat) (σ σ' : L2.St) : Prop := σ'.length = σ.length ∧ ∀ i : Nat, i ∉ own → σ'[i]? = σ[i]?
theorem Fr.refl (own : List Nat) (σ : L2.St) : Fr own σ σ := ⟨rfl, fun _ _ => rfl⟩
theorem Fr.trans {own : List Nat} {σ σ1 σ2 : L2.St} (a : Fr own σ σ1) (b : Fr own σ1 σ2) : Fr own σ σ2 := ⟨b.1.trans a.1, fun i h => (b.2 i h).trans (a.2 i h)⟩
theorem Fr.mono {own own' : List Nat} {σ σ1 : L2.St} (a : Fr own σ σ1) (h : ∀ i ∈ own, i ∈ own') : Fr own' σ σ1 := ⟨a.1, fun i hi => a.2 i fun z => hi (h i z)⟩
/-- a slot takes a shared datum -/
theorem stp_set {K : MKx} {σ : L2.St} {ρ : Env} {H : Hp} {i : Nat} {d : PyData} {v : V} (R : EnvRel K σ ρ H) (hi : i < ρ.length) (r : Rep K H v d) : Stp K σ ρ H (σ.set i (some v)) (ρ.set i (some (false, d))) H := by
  have hs : i < σ.length := by rw [← R.len]; exact hi
  have at' : ∀ {j : Nat} {e : PyData}, (ρ.set i (some (false, d)))[j]? = some (some (true, e)) → i ≠ j ∧ ρ[j]? = some (some (true, e)) := fun {j e} q => by
    by_cases z : i = j
    · subst z
      rw [List.getElem?_set_self hi] at q
      cases q
    · rw [List.getElem?_set_ne z] at q
      exact ⟨z, q⟩
  refine ⟨⟨by rw [List.length_set, List.length_set]; exact R.len, fun j e q => ?_, fun j e q => ?_, fun j k e f p h1 h2 h3 h4 => ?_⟩, fun _ _ e _ => e, fun a ⟨j, e, h1, h2⟩ => ?_, fun a o e => ⟨o, e⟩⟩
  · by_cases z : i = j
    · subst z
      rw [List.getElem?_set_self hi] at q
      cases q
      exact ⟨v, List.getElem?_set_self hs, r⟩
    · rw [List.getElem?_set_ne z] at q
      rw [List.getElem?_set_ne z]
      exact R.sh j e q
  · obtain ⟨z, q⟩ := at' q
    rw [List.getElem?_set_ne z]
    exact R.own j e q
  · obtain ⟨z1, h1⟩ := at' h1
    obtain ⟨z2, h2⟩ := at' h2
    rw [List.getElem?_set_ne z1] at h3
    rw [List.getElem?_set_ne z2] at h4
    exact R.inj j k e f p h1 h2 h3 h4
  · obtain ⟨z, h1⟩ := at' h1
    rw [List.getElem?_set_ne z] at h2
    exact ⟨j, e, h1, h2⟩
/-- a target takes a datum -/
def gT (K : MKx) (mp : List Nat) (t : Tg) : TG := fun v σ H Q => ∃ d ρ ρ', Rep K H v d ∧ EnvRel K σ ρ H ∧ asgT mp t d ρ = some ρ' ∧ ∀ σ' H', Stp K σ ρ H σ' ρ' H' → Fr t.slots σ σ' → Q σ' H'
def gTs (K : MKx) (mp : List Nat) (t : Tgs) : TGs := fun vs σ H Q => ∃ ds ρ ρ', RepAll K H vs ds ∧ EnvRel K σ ρ H ∧ asgTs mp t ds ρ = some ρ' ∧ ∀ σ' H', Stp K σ ρ H σ' ρ' H' → Fr t.slots σ σ' → Q σ' H'
section
variable {X : Cx}
theorem pg_imp {e : Expr} {t t' : TG} (h : PG X e t) (i : ∀ v σ H Q, t' v σ H Q → t v σ H Q) : PG X e t' := ⟨fun pins s σ H v u Q I r q => h.run pins s σ H v u Q I r (i _ _ _ _ q)⟩
theorem pgs_imp {e : List Expr} {t t' : TGs} (h : PGs X e t) (i : ∀ v σ H Q, t' v σ H Q → t v σ H Q) : PGs X e t' := ⟨fun pins s σ H v u Q I r q => h.run pins s σ H v u Q I r (i _ _ _ _ q)⟩
theorem pg_or {e : Expr} {t t' : TG} (h : PG X e t) (h' : PG X e t') : PG X e (fun v σ H Q => t v σ H Q ∨ t' v σ H Q) := ⟨fun pins s σ H v u Q I r q => q.elim (h.run pins s σ H v u Q I r) (h'.run pins s σ H v u Q I r)⟩
end
theorem asgTs_len {mp : List Nat} : ∀ {ts : Tgs} {ds : List PyData} {ρ ρ' : Env} {c : Ck} {es : List Expr}, asgTs mp ts ds ρ = some ρ' → chkTs c ts es = true → ds.length = es.length
  | .nil, [], _, _, _, [], _, _ => rfl
  | .nil, [], _, _, _, _ :: _, _, h => by cases h
  | .nil, _ :: _, _, _, _, _, e, _ => by cases e
  | .cons _ _, [], _, _, _, _, e, _ => by cases e
  | .cons _ _, _ :: _, _, _, _, [], _, h => by cases h
  | .cons t r, d :: ds, ρ, ρ', c, x :: xs, e, h => by
    unfold asgTs at e
    split at e
    · have h2 : (chkT c t x && chkTs c r xs) = true := h
      rw [Bool.and_eq_true] at h2
      rw [List.length_cons, List.length_cons, asgTs_len e h2.2]
    · cases e
mutual
theorem pg_of {mp : List Nat} : ∀ {t : Tg} {e : Expr} {c : Ck} {X : Cx}, Gd0 c X → chkT c t e = true → PG X e (gT (kw X) mp t)
  | .var i, e, c, X, G, h => by
    cases e <;> try (cases h; done)
    · rename_i x p
      replace h : (decide (c.N[i]? = some x) && locB c x) = true := h
      rw [Bool.and_eq_true, decide_eq_true_eq] at h
      obtain ⟨l1, l2⟩ := G.loc h.2
      refine pg_imp (pg_name (pos := p) G.nd (by rw [G.n]; exact h.1) l1 l2) fun v σ H Q ⟨d, ρ, ρ', r, R, ea, k⟩ => ?_
      unfold asgT at ea
      split at ea
      · cases ea
      · rename_i hc
        cases ea
        simp only [Bool.or_eq_true, Bool.not_eq_true', decide_eq_false_iff_not, not_or, Decidable.not_not] at hc
        exact k _ _ (stp_set R hc.2 r) ⟨List.length_set, fun j hj => List.getElem?_set_ne fun z => hj (by rw [← z]; exact List.mem_singleton.mpr rfl)⟩
  | .tup ts, e, c, X, G, h => by
    cases e <;> try (cases h; done)
    · rename_i es k p
      replace h : (es.all ns && chkTs c ts es) = true := h
      rw [Bool.and_eq_true] at h
      obtain ⟨z1, z2⟩ := asg_len (env := X.env) h.1
      have hs := pgs_of (mp := mp) G h.1 h.2
      refine pg_imp (pg_or (pg_tup (pos := p) (k := k) G.calm hs z1 z2) (pg_lst (pos := p) (k := k) G.calm hs z1 z2)) fun v σ H Q ⟨d, ρ, ρ', r, R, ea, kk⟩ => ?_
      unfold asgT at ea
      split at ea
      · rename_i xs
        cases r with
        | tup hq ra => exact .inl ⟨_, _, rfl, hq, by rw [ra.length]; exact asgTs_len ea h.2, xs, ρ, ρ', ra, R, ea, kk⟩
      · rename_i xs
        cases r with
        | lst hq _ ra => exact .inr ⟨_, _, rfl, .inl (.inr ⟨_, hq⟩), by rw [ra.length]; exact asgTs_len ea h.2, xs, ρ, ρ', ra, R, ea, kk⟩
      · cases ea
theorem pgs_of {mp : List Nat} : ∀ {t : Tgs} {es : List Expr} {c : Ck} {X : Cx}, Gd0 c X → es.all ns = true → chkTs c t es = true → PGs X es (gTs (kw X) mp t)
  | .nil, [], c, X, G, _, h => pgs_imp pgs_nil fun v σ H Q ⟨ds, ρ, ρ', r, R, ea, k⟩ => by
    cases ds with
    | nil =>
      cases ea
      cases r
      exact ⟨rfl, k _ _ (Out.refl R) (Fr.refl _ _)⟩
    | cons => cases ea
  | .nil, _ :: _, c, X, G, _, h => by cases h
  | .cons _ _, [], c, X, G, _, h => by cases h
  | .cons t r, e :: es, c, X, G, hn, h => by
    have h2 : (chkT c t e && chkTs c r es) = true := h
    rw [Bool.and_eq_true] at h2
    rw [List.all_cons, Bool.and_eq_true] at hn
    refine pgs_imp (pgs_cons (pg_of (mp := mp) G h2.1) (pgs_of (mp := mp) G hn.2 h2.2) (by rw [asg_cons hn.1]; rfl)) fun v σ H Q ⟨ds, ρ, ρ', ra, R, ea, k⟩ => ?_
    cases ra with
    | nil => cases ea
    | @cons x xs d ds' a b =>
      unfold asgTs at ea
      split at ea
      · rename_i ρ1 e1
        refine ⟨x, xs, rfl, d, ρ, ρ1, a, R, e1, fun σ1 H1 s1 f1 => ?_⟩
        refine ⟨ds', ρ1, ρ', b.ext (s1.ext R), s1.env, ea, fun σ2 H2 s2 f2 => k σ2 H2 (s1.trans s2) ?_⟩
        exact (f1.mono fun i hi => List.mem_append_left _ hi).trans (f2.mono fun i hi => List.mem_append_right _ hi)
      · cases ea
end
end MP

/-! MP: a comprehension's loops. -/
namespace MP
open PySem PySem.Spec PyProof.Rows L2

/-- a step that may change the list at D -/
structure StpD (K : MKx) (D : Addr) (σ : L2.St) (ρ : Env) (H : Hp) (σ' : L2.St) (ρ' : Env) (H' : Hp) : Prop where
  env : EnvRel K σ' ρ' H'
  keep : ∀ a o, H a = some o → a ≠ D → ¬ Owned σ ρ a → H' a = some o
  less : ∀ a, Owned σ' ρ' a → Owned σ ρ a
  there : ∀ a o, H a = some o → ∃ o', H' a = some o'
section
variable {K : MKx} {D : Addr} {σ σ' σ1 σ2 : L2.St} {ρ ρ' ρ1 ρ2 : Env} {H H' H1 H2 : Hp}
theorem Stp.d (a : Stp K σ ρ H σ' ρ' H') : StpD K D σ ρ H σ' ρ' H' := ⟨a.env, fun b o e _ n => a.keep b o e n, a.less, a.there⟩
theorem StpD.trans (a : StpD K D σ ρ H σ1 ρ1 H1) (b : StpD K D σ1 ρ1 H1 σ2 ρ2 H2) : StpD K D σ ρ H σ2 ρ2 H2 :=
  ⟨b.env, fun c o e d n => b.keep c o (a.keep c o e d n) d fun z => n (a.less c z), fun c h => a.less c (b.less c h), fun c o e => let ⟨o', e'⟩ := a.there c o e; b.there c o' e'⟩
theorem StpD.ext {vs : List V} (a : StpD K D σ ρ H σ' ρ' H') (R : EnvRel K σ ρ H) (h : H D = some (.lst vs)) : Ext H H' := fun b => by
  have nd : ∀ o, H b = some o → (∀ xs, o ≠ .lst xs) → b ≠ D ∧ ¬ Owned σ ρ b := fun o e n => by
    refine ⟨fun z => ?_, fun z => ?_⟩
    · rw [z, h] at e
      cases e
      exact n _ rfl
    · obtain ⟨ys, q⟩ := R.owned z
      rw [e] at q
      cases q
      exact n _ rfl
  refine ⟨fun xs e => ?_, fun o u e => ?_⟩
  · obtain ⟨h1, h2⟩ := nd _ e fun _ z => nomatch z
    exact a.keep b _ e h1 h2
  · obtain ⟨h1, h2⟩ := nd _ e fun _ z => nomatch z
    exact a.keep b _ e h1 h2
/-- the list at D takes an item -/
theorem stp_app {vs : List V} {x : V} (R : EnvRel K σ ρ H) (h : H D = some (.lst vs)) (hn : ¬ Owned σ ρ D) : StpD K D σ ρ H σ ρ (upd H D (.lst (vs ++ [x]))) := by
  have ex : Ext H (upd H D (.lst (vs ++ [x]))) := Ext.frz h
  refine ⟨⟨R.len, fun i d e => ?_, fun i d e => ?_, R.inj⟩, fun a o e d _ => by rw [upd_ne d]; exact e, fun _ z => z, fun a o e => ?_⟩
  · obtain ⟨y, h1, h2⟩ := R.sh i d e
    exact ⟨y, h1, h2.ext ex⟩
  · obtain ⟨q, ds, h1, h2, xs, h3, h4⟩ := R.own i d e
    have hq : q ≠ D := fun z => hn ⟨i, d, e, by rw [← z]; exact h1⟩
    exact ⟨q, ds, h1, h2, xs, by rw [upd_ne hq]; exact h3, h4.ext ex⟩
  · by_cases z : a = D
    · exact ⟨_, by rw [z]; exact upd_same⟩
    · exact ⟨o, by rw [upd_ne z]; exact e⟩
end
/-- the reading of a test -/
def tT (K : MKx) (D : Env → Option (Bool × Env)) : TT := fun σ H Q => ∃ ρ b ρ', EnvRel K σ ρ H ∧ D ρ = some (b, ρ') ∧ ∀ H', Out K σ ρ H ρ' H' → Q b H'
/-- what a clause's inner code does: from a state where the list at D holds vs -/
def InOk (B : Cx) (D : Addr) (own : List Nat) (kD : Env → Option (List PyData × Env)) (Act : (Shared → Prop) → Shared → Prop) : Prop :=
  ∀ (pins : List (Addr × Obj)) (s : Shared) (σ : L2.St) (ρ : Env) (H : Hp) (vs : List V) (ds : List PyData) (ρ' : Env) (G : Shared → Prop), Inv B pins σ H s → EnvRel (kw B) σ ρ H → H D = some (.lst vs) → ¬ Owned σ ρ D → kD ρ = some (ds, ρ') → vs.length + ds.length ≤ sizeLine →
    (∀ σ' H' s' ws, Inv B pins σ' H' s' → StpD (kw B) D σ ρ H σ' ρ' H' → Fr own σ σ' → RepAll (kw B) H' ws ds → H' D = some (.lst (vs ++ ws)) → G s') → Act G s
/-- what a clause's loop does -/
def LpOk (B : Cx) (e : Expr) (k : Nat) (D : Addr) (own : List Nat) (tg : Expr) (F : List PyData → Env → Option (List PyData × Env)) : Prop :=
  ∀ (J : L2.It) (it : Addr) (fp : List Addr) (tn : Nat → Heap → Prop) (xs : List PyData) (pins : List (Addr × Obj)) (s : Shared) (σ : L2.St) (ρ : Env) (H : Hp) (R : Result → Shared → Prop) (ds : List PyData) (ρ' : Env) (vs : List V),
    Turn B.prog B.w (kw B) tg J fp it tn → Inv B pins σ H s → tn 0 s.heap → (∀ b ∈ fp, FpOk B pins H b) → EnvRel (kw B) σ ρ H → ItRel (kw B) J xs H → H D = some (.lst vs) → ¬ Owned σ ρ D → F xs ρ = some (ds, ρ') → vs.length + ds.length ≤ sizeLine →
    (∀ σ' H' s' ws, Inv B pins σ' H' s' → StpD (kw B) D σ ρ H σ' ρ' H' → Fr own σ σ' → RepAll (kw B) H' ws ds → H' D = some (.lst (vs ++ ws)) → R (.ok .next) s') →
    codeAny (model B.prog B.w) B.A (.compLoop e k (.ref it) (.ref D) B.env) R s
theorem ItRel.ext {K : MKx} {J : L2.It} {ds : List PyData} {H H' : Hp} (h : ItRel K J ds H) (e : Ext H H') : ItRel K J ds H' := fun H1 e1 => h H1 (e.trans e1)
theorem thnX {B : Cx} {α : Type} {t : Sem α} {Q Q' : α → Shared → Prop} {M : Model} {A : Around} {E : Value → Shared → Prop} {s : Shared} (hx : ∀ e s, ¬ B.xe e s) (h : wpAny M A t Q B.xe s) (hQ : ∀ a s, Q a s → Q' a s) : wpAny M A t Q' E s := wpAny_mono h hQ fun e s z => (hx e s z).elim
/-- a clause's loop by its turn -/
theorem lp_ok {B : Cx} {e : Expr} {k : Nat} {D : Addr} {own : List Nat} {tg : Expr} {ifs : List Expr} {mp : List Nat} {t : Tg} {Db : Env → Option (Bool × Env)} {kD : Env → Option (List PyData × Env)} {Act : (Result → Shared → Prop) → (Shared → Prop) → Shared → Prop} (hx : ∀ e s, ¬ B.xe e s) (hc : B.calm = true)
    (hloop : ∀ (it : Value) (R : Result → Shared → Prop) (I : Nat → Shared → Prop), (∀ n s, I n s → wpAny (model B.prog B.w) B.A (pyNext it) (fun r s1 => match r with
        | none => R (.ok .next) s1
        | some v => wpAny (model B.prog B.w) B.A (letOwnedTupleGo tg it v) (fun _ s2 => wpAny (model B.prog B.w) B.A (assign tg B.env v) (fun _ s3 => wpAny (model B.prog B.w) B.A (tests ifs B.env) (fun ok s4 =>
            if ok = true then Act R (fun s5 => ∃ m, m < n ∧ I m s5) s4 else ∃ m, m < n ∧ I m s4)
            (EndsIn R B.prog B.w B.A B.env) s3) (EndsIn R B.prog B.w B.A B.env) s2) (EndsIn R B.prog B.w B.A B.env) s1) (EndsIn R B.prog B.w B.A B.env) s) →
      ∀ n s, I n s → codeAny (model B.prog B.w) B.A (.compLoop e k it (.ref D) B.env) R s)
    (hg : PG B tg (gT (kw B) mp t)) (ho : ∀ i ∈ t.slots, i ∈ own) (ht : PTs B ifs (tT (kw B) Db)) (hin : ∀ R, InOk B D own kD (Act R)) : LpOk B e k D own tg (loopC (cBody mp t Db kD)) := by
  intro J it fp tn xs pins s σ ρ H R ds ρ' vs T I0 st0 f0 R0 J0 hD hnD hF hz post
  have stat : ∀ {H' : Hp}, (∀ b ∈ fp, H' b = none) → ∀ b ∈ fp, FpOk B pins H' b := fun hn b hb => ⟨hn b hb, (f0 b hb).2⟩
  refine hloop (.ref it) R (fun n s' => ∃ i σ' ρi H' ds1 rest ws, Inv B pins σ' H' s' ∧ tn i s'.heap ∧ (∀ b ∈ fp, H' b = none) ∧ n = xs.length - i ∧ i ≤ xs.length ∧ StpD (kw B) D σ ρ H σ' ρi H' ∧ Fr own σ σ' ∧
    loopC (cBody mp t Db kD) (xs.drop i) ρi = some (rest, ρ') ∧ ds = ds1 ++ rest ∧ RepAll (kw B) H' ws ds1 ∧ H' D = some (.lst (vs ++ ws))) ?_ xs.length s ⟨0, σ, ρ, H, [], ds, [], I0, st0, fun b hb => (f0 b hb).1, by simp, Nat.zero_le _, (Out.refl R0).d, Fr.refl _ _, by simpa using hF, rfl, .nil, by simpa using hD⟩
  rintro n s1 ⟨i, σ1, ρ1, H1, ds1, rest, ws, I1, st1, n1, rfl, hi, S1, F1, hl, rfl, ra, hD1⟩
  have ex1 : Ext H H1 := S1.ext R0 hD
  have hn1 : ¬ Owned σ1 ρ1 D := fun z => hnD (S1.less D z)
  obtain ⟨jgo, jy, jstop⟩ := J0 H1 ex1
  by_cases hlt : i < xs.length
  · have hx0 : xs[i]? = some xs[i] := List.getElem?_eq_getElem hlt
    rw [List.drop_eq_getElem_cons hlt] at hl
    unfold loopC at hl
    cases q1 : cBody mp t Db kD xs[i] ρ1 with
    | none => simp [q1] at hl
    | some y =>
      obtain ⟨r, ρ2⟩ := y
      cases q2 : loopC (cBody mp t Db kD) (xs.drop (i + 1)) ρ2 with
      | none => simp [q1, q2] at hl
      | some z =>
        obtain ⟨rs, ρ3⟩ := z
        simp only [q1, q2] at hl
        cases hl
        refine thn (T.item B rfl rfl rfl hc i pins s1 σ1 H1 _ I1 (stat n1) st1 (jgo i _ hx0)) fun r0 s2 ⟨u, hr, h2⟩ => ?_
        subst hr
        refine thn h2 fun _ s3 ⟨x, H3, I3, r3, y3, st3, n3⟩ => ?_
        obtain ⟨kp, d, hd, rx⟩ := jy i x H3 hlt y3
        rw [hx0] at hd
        cases hd
        have S3 : StpD (kw B) D σ ρ H σ1 ρ1 H3 := S1.trans (Out.more S1.env kp).d
        have I3' := I3.pinned (stat n3) (T.obj _ _ st3)
        unfold cBody at q1
        split at q1
        · rename_i ρa ea
          refine thnX hx (hg.run _ s3 σ1 H3 x u (fun σ' H' => ∃ ρ', StpD (kw B) D σ ρ H σ' ρ' H' ∧ Fr own σ σ' ∧ ρ' = ρa ∧ RepAll (kw B) H' ws ds1 ∧ H' D = some (.lst (vs ++ ws))) I3' r3 ⟨xs[i], ρ1, ρa, rx, S3.env, ea, fun σ' H' sa fa => ⟨ρa, S3.trans sa.d, F1.trans (fa.mono ho), rfl, (ra.ext (Ext.all kp)).ext (sa.ext S3.env), sa.keep D _ (kp _ _ hD1) fun z => hn1 z⟩⟩) fun _ s4 ⟨σ4, H4, I4, ρ4, S4, F4, e4, ra4, hD4⟩ => ?_
          subst e4
          have hn4 : ¬ Owned σ4 ρ4 D := fun z => hnD (S4.less D z)
          -- the turn's end
          have fin : ∀ {σ' : L2.St} {H' : Hp} {s' : Shared} {ws' : List V} {ρe : Env}, Inv B (pins ++ pinsAt fp s3.heap) σ' H' s' → StpD (kw B) D σ ρ H σ' ρe H' → Fr own σ σ' → ρe = ρ2 → RepAll (kw B) H' (ws ++ ws') (ds1 ++ r) → H' D = some (.lst (vs ++ (ws ++ ws'))) →
              ∃ m, m < xs.length - i ∧ ∃ i σ' ρi H' ds1' rest ws, Inv B pins σ' H' s' ∧ tn i s'.heap ∧ (∀ b ∈ fp, H' b = none) ∧ m = xs.length - i ∧ i ≤ xs.length ∧ StpD (kw B) D σ ρ H σ' ρi H' ∧ Fr own σ σ' ∧
                loopC (cBody mp t Db kD) (xs.drop i) ρi = some (rest, ρ') ∧ ds1 ++ (r ++ rs) = ds1' ++ rest ∧ RepAll (kw B) H' ws ds1' ∧ H' D = some (.lst (vs ++ ws)) := fun {σ' H' s' ws' ρe} I' S' F' ee ra' hD' => by
            subst ee
            have pin' : ∀ b ∈ fp, ∀ o, s3.heap.get? b = some o → s'.heap.get? b = some o ∧ H' b = none := fun b hb o e =>
              let z := I'.pin (b, o) (List.mem_append_right _ (List.mem_append_right _ (mem_pinsAt hb e)))
              ⟨z.1, z.2.1⟩
            refine ⟨xs.length - (i + 1), by omega, i + 1, σ', ρe, H', ds1 ++ r, rs, ws ++ ws', I'.unpinned, T.keep _ _ _ st3 fun b hb o e => (pin' b hb o e).1, fun b hb => ?_, rfl, hlt, S', F', q2, by rw [List.append_assoc], ra', hD'⟩
            obtain ⟨o, e, _⟩ := T.obj _ _ st3 b hb
            exact (pin' b hb o e).2
          split at q1
          · rename_i ρb eb
            refine thnX hx (ht.run _ s4 σ4 H4 (fun b H' => b = true ∧ StpD (kw B) D σ ρ H σ4 ρb H' ∧ RepAll (kw B) H' ws ds1 ∧ H' D = some (.lst (vs ++ ws))) I4 ⟨ρ4, true, ρb, S4.env, eb, fun H' o => ⟨rfl, S4.trans o.d, ra4.ext (o.ext S4.env), o.keep D _ hD4 hn4⟩⟩) fun ok s5 ⟨H5, I5, hb, S5, ra5, hD5⟩ => ?_
            subst hb
            rw [if_pos rfl]
            have hn5 : ¬ Owned σ4 ρb D := fun z => hnD (S5.less D z)
            have hl1 := ra5.length
            refine hin R _ s5 σ4 ρb H5 (vs ++ ws) r ρ2 _ I5 S5.env hD5 hn5 q1 (by simp only [List.length_append] at hz ⊢; omega) fun σ6 H6 s6 ws6 I6 S6 F6 ra6 hD6 => ?_
            exact fin I6 (S5.trans S6) (F4.trans F6) rfl ((ra5.ext (S6.ext S5.env hD5)).append ra6) (by rw [hD6, List.append_assoc])
          · rename_i ρb eb
            cases q1
            refine thnX hx (ht.run _ s4 σ4 H4 (fun b H' => b = false ∧ StpD (kw B) D σ ρ H σ4 ρ2 H' ∧ RepAll (kw B) H' ws ds1 ∧ H' D = some (.lst (vs ++ ws))) I4 ⟨ρ4, false, ρ2, S4.env, eb, fun H' o => ⟨rfl, S4.trans o.d, ra4.ext (o.ext S4.env), o.keep D _ hD4 hn4⟩⟩) fun ok s5 ⟨H5, I5, hb, S5, ra5, hD5⟩ => ?_
            subst hb
            rw [if_neg Bool.false_ne_true]
            exact fin (ws' := []) I5 S5 F4 rfl (by simpa using ra5) (by simpa using hD5)
          · cases q1
        · cases q1
  · have hie : i = xs.length := by omega
    subst hie
    rw [List.drop_length] at hl
    unfold loopC at hl
    cases hl
    refine thn (T.done B rfl rfl rfl hc _ pins s1 σ1 H1 _ I1 (stat n1) st1 jstop) fun r s2 ⟨hr, I2⟩ => ?_
    subst hr
    exact post σ1 H1 s2 ws I2 S1 F1 (by simpa using ra) hD1
end MP

/-! MP: expressions, the parts. -/
namespace MP
open PySem PySem.Spec PyProof.Rows L2

section
variable {K : MKx} {σ : L2.St} {ρ ρ' : Env} {H H' : Hp}
theorem tM_mono {D : DE} {Q Q' : VK} (h : tM K D σ H Q) (i : ∀ x H, Q x H → Q' x H) : tM K D σ H Q' := by
  obtain ⟨ρ, r, ρ', R, e, k⟩ := h
  exact ⟨ρ, r, ρ', R, e, fun x H' o s => i _ _ (k x H' o s)⟩
/-- one, two arguments -/
theorem args1 {Φ : Ph} {Mu : Nat → List Bool} {mp : List Nat} {a : Ex} {Q : List V → Hp → Prop} (h : tMs K (dens Φ Mu mp (.cons a .nil)) σ H Q) : tM K (den Φ Mu mp a) σ H fun x H1 => Q [x] H1 := by
  have h1 := tMs_cons (D := den Φ Mu mp a) (Dr := dens Φ Mu mp .nil) (fun ρ => by rw [dens] <;> rfl) h
  exact tM_mono h1 fun x H1 q => tMs_nil (es := dens Φ Mu mp .nil) (fun ρ => by rw [dens]) q
theorem args2 {Φ : Ph} {Mu : Nat → List Bool} {mp : List Nat} {a b : Ex} {Q : List V → Hp → Prop} (h : tMs K (dens Φ Mu mp (.cons a (.cons b .nil))) σ H Q) : tM K (den Φ Mu mp a) σ H fun x H1 => tM K (den Φ Mu mp b) σ H1 fun y H2 => Q [x, y] H2 := by
  have h1 := tMs_cons (D := den Φ Mu mp a) (Dr := dens Φ Mu mp (.cons b .nil)) (fun ρ => by rw [dens] <;> rfl) h
  exact tM_mono h1 fun x H1 q => args1 q
end
/-- the value of a truth -/
def tB (D : Env → Option (Bool × Env)) : DE := fun ρ => match D ρ with
  | some (b, ρ1) => some (.sh (.bool b), ρ1)
  | none => none
section
variable {K : MKx} {σ : L2.St} {H : Hp}
theorem tT_of {D : DE} {Q : Bool → Hp → Prop} (h : tT K (bT D) σ H Q) : tM K D σ H fun x H1 => ∃ k, x = .bl k ∧ Q k H1 := by
  obtain ⟨ρ, b, ρ', R, e, k⟩ := h
  unfold bT at e
  split at e
  · rename_i r ρ1 e1
    split at e
    · rename_i b' e2
      cases e
      exact ⟨ρ, r, ρ', R, e1, fun x H' o s => ⟨b, (s.readable o.env e2).bool, k H' o⟩⟩
    · cases e
  · cases e
theorem tB_of {D : Env → Option (Bool × Env)} {Q : VK} (h : tM K (tB D) σ H Q) : tT K D σ H fun b H1 => Q (.bl b) H1 := by
  obtain ⟨ρ, r, ρ', R, e, k⟩ := h
  unfold tB at e
  split at e
  · rename_i b ρ1 e1
    cases e
    exact ⟨ρ, b, ρ', R, e1, fun H' o => k _ _ o (.bl b)⟩
  · cases e
theorem bT_tB (D : Env → Option (Bool × Env)) : bT (tB D) = D := by
  funext ρ
  unfold bT tB
  cases h : D ρ with
  | none => rfl
  | some y => rfl
theorem tT_mono {D : Env → Option (Bool × Env)} {Q Q' : Bool → Hp → Prop} (h : tT K D σ H Q) (i : ∀ x H, Q x H → Q' x H) : tT K D σ H Q' := by
  obtain ⟨ρ, r, ρ', R, e, k⟩ := h
  exact ⟨ρ, r, ρ', R, e, fun H' o => i _ _ (k H' o)⟩
/-- one, then another by what came -/
theorem tT_bind {D1 D2 D3 : Env → Option (Bool × Env)} {D : Env → Option (Bool × Env)} {Q : Bool → Hp → Prop} (he : ∀ ρ, D ρ = match D1 ρ with
      | some (true, ρ1) => D2 ρ1
      | some (false, ρ1) => D3 ρ1
      | none => none) (h : tT K D σ H Q) : tT K D1 σ H fun b H1 => if b = true then tT K D2 σ H1 Q else tT K D3 σ H1 Q := by
  obtain ⟨ρ, b, ρ', R, e, k⟩ := h
  rw [he] at e
  split at e
  · rename_i ρ1 e1
    exact ⟨ρ, true, ρ1, R, e1, fun H1 o1 => show tT K D2 σ H1 Q from ⟨ρ1, b, ρ', o1.env, e, fun H2 o2 => k H2 (Stp.trans o1 o2)⟩⟩
  · rename_i ρ1 e1
    exact ⟨ρ, false, ρ1, R, e1, fun H1 o1 => show tT K D3 σ H1 Q from ⟨ρ1, b, ρ', o1.env, e, fun H2 o2 => k H2 (Stp.trans o1 o2)⟩⟩
  · cases e
theorem tM_bind {D1 : Env → Option (Bool × Env)} {D2 D3 D : DE} {Q : VK} (he : ∀ ρ, D ρ = match D1 ρ with
      | some (true, ρ1) => D2 ρ1
      | some (false, ρ1) => D3 ρ1
      | none => none) (h : tM K D σ H Q) : tT K D1 σ H fun b H1 => if b = true then tM K D2 σ H1 Q else tM K D3 σ H1 Q := by
  obtain ⟨ρ, r, ρ', R, e, k⟩ := h
  rw [he] at e
  split at e
  · rename_i ρ1 e1
    exact ⟨ρ, true, ρ1, R, e1, fun H1 o1 => show tM K D2 σ H1 Q from ⟨ρ1, r, ρ', o1.env, e, fun x H2 o2 s => k x H2 (Stp.trans o1 o2) (s.early R o1)⟩⟩
  · rename_i ρ1 e1
    exact ⟨ρ, false, ρ1, R, e1, fun H1 o1 => show tM K D3 σ H1 Q from ⟨ρ1, r, ρ', o1.env, e, fun x H2 o2 s => k x H2 (Stp.trans o1 o2) (s.early R o1)⟩⟩
  · cases e
theorem tT_some {D : Env → Option (Bool × Env)} {b : Bool} {Q : Bool → Hp → Prop} (he : ∀ ρ, D ρ = some (b, ρ)) (h : tT K D σ H Q) : Q b H := by
  obtain ⟨ρ, b', ρ', R, e, k⟩ := h
  rw [he] at e
  cases e
  exact k H (Out.refl R)
end

/-! ### checked parts -/
inductive PEs (Φ : Ph) (Mu : Nat → List Bool) (mp : List Nat) (X : Cx) : Exs → List Expr → Prop where
  | nil : PEs Φ Mu mp X .nil []
  | cons {a r e es} : ns e = true → PE X e (tM (kw X) (den Φ Mu mp a)) → PT X e (tT (kw X) (bT (den Φ Mu mp a))) → PEs Φ Mu mp X r es → PEs Φ Mu mp X (.cons a r) (e :: es)
section
variable {Φ : Ph} {Mu : Nat → List Bool} {mp : List Nat} {X : Cx}
theorem PEs.ns : ∀ {as : Exs} {es : List Expr}, PEs Φ Mu mp X as es → es.all ns = true
  | _, _, .nil => rfl
  | _, _, .cons h _ _ r => by rw [List.all_cons, h, r.ns]; rfl
theorem PEs.pa : ∀ {as : Exs} {es : List Expr}, PEs Φ Mu mp X as es → PA X es (tMs (kw X) (dens Φ Mu mp as))
  | _, _, .nil => PA.imp pa_nil fun σ H Q h => tMs_nil (es := dens Φ Mu mp .nil) (fun ρ => by rw [dens]) h
  | _, _, .cons (a := a) (r := r) h h1 _ hr => PA.imp (pa_cons h1 hr.pa (star_cons h)) fun σ H Q h => tMs_cons (D := den Φ Mu mp a) (Dr := dens Φ Mu mp r) (fun ρ => by rw [dens] <;> rfl) h
theorem denB_cons (w : Bool) (a : Ex) (r : Exs) (ρ : Env) : denB Φ Mu mp w (.cons a r) ρ = match bT (den Φ Mu mp a) ρ with
      | some (b, ρ1) => if b = w then denB Φ Mu mp w r ρ1 else some (b, ρ1)
      | none => none := by
  rw [denB]
  unfold bT
  cases den Φ Mu mp a ρ with
  | none => rfl
  | some y =>
    obtain ⟨x, ρ1⟩ := y
    simp only
    cases valOf ρ1 x with
    | none => rfl
    | some d => cases d <;> rfl
theorem denB_and (a : Ex) (r : Exs) (ρ : Env) : denB Φ Mu mp true (.cons a r) ρ = match bT (den Φ Mu mp a) ρ with
      | some (true, ρ1) => denB Φ Mu mp true r ρ1
      | some (false, ρ1) => some (false, ρ1)
      | none => none := by
  rw [denB_cons]
  cases bT (den Φ Mu mp a) ρ with
  | none => rfl
  | some y =>
    obtain ⟨b, ρ1⟩ := y
    cases b <;> rfl
theorem denB_or (a : Ex) (r : Exs) (ρ : Env) : denB Φ Mu mp false (.cons a r) ρ = match bT (den Φ Mu mp a) ρ with
      | some (true, ρ1) => some (true, ρ1)
      | some (false, ρ1) => denB Φ Mu mp false r ρ1
      | none => none := by
  rw [denB_cons]
  cases bT (den Φ Mu mp a) ρ with
  | none => rfl
  | some y =>
    obtain ⟨b, ρ1⟩ := y
    cases b <;> rfl
theorem denB_nil (w : Bool) (ρ : Env) : denB Φ Mu mp w .nil ρ = some (w, ρ) := by rw [denB]
theorem if_true_same {p : Bool} {P : Bool → Prop} (h : if p = true then P true else P false) : P p := by
  cases p with
  | true => exact h
  | false => exact h
/-- a clause's tests -/
theorem PEs.pts : ∀ {as : Exs} {es : List Expr}, PEs Φ Mu mp X as es → PTs X es (tT (kw X) (denB Φ Mu mp true as))
  | _, _, .nil => ⟨fun pins s σ H Q I h => pts_nil.run pins s σ H Q I (tT_some (denB_nil true) h)⟩
  | _, _, .cons (a := a) (r := r) (e := e) (es := es) h h1 ht hr => by
    refine ⟨fun pins s σ H Q I hq => ?_⟩
    have h2 := tT_bind (D1 := bT (den Φ Mu mp a)) (D2 := denB Φ Mu mp true r) (D3 := fun ρ => some (false, ρ)) (fun ρ => denB_and a r ρ) hq
    rw [List.forIn_cons]
    refine wpAny_bind ?_
    show wpAny _ _ (if true = true then _ else _) _ _ _
    rw [if_pos rfl]
    refine wpAny_bind (thn (ht.run pins s σ H _ I h2) fun ok s1 ⟨H1, I1, q1⟩ => wpAny_pure ?_)
    cases ok with
    | true => exact hr.pts.run pins s1 σ H1 Q I1 q1
    | false =>
      have q2 := tT_some (b := false) (fun ρ => rfl) q1
      have stop : ∀ es : List Expr, wpAny (model X.prog X.w) X.A (forIn es false fun c r => if r = true then do let ok ← isTrue c X.env (eval c X.env); pure (ForInStep.yield ok) else pure (ForInStep.yield r)) (TP X pins σ Q) X.xe s1 := fun es => by
        induction es with
        | nil =>
          rw [List.forIn_nil]
          exact wpAny_pure ⟨H1, I1, q2⟩
        | cons e es ih =>
          rw [List.forIn_cons]
          refine wpAny_bind ?_
          rw [if_neg Bool.false_ne_true]
          exact wpAny_pure ih
      exact stop es
/-- and, or -/
theorem PEs.andT {pos : Pos} : ∀ {as : Exs} {es : List Expr}, PEs Φ Mu mp X as es → PW X (.BoolOp .And es pos) (tT (kw X) (denB Φ Mu mp true as))
  | _, _, .nil => ⟨fun wh pins s σ H Q I h => isTrue_and_nil ⟨H, I, tT_some (denB_nil true) h⟩⟩
  | _, _, .cons (a := a) (r := r) (e := e) (es := es) h h1 ht hr => ⟨fun wh pins s σ H Q I hq => by
    have h2 := tT_bind (D1 := bT (den Φ Mu mp a)) (D2 := denB Φ Mu mp true r) (D3 := fun ρ => some (false, ρ)) (fun ρ => denB_and a r ρ) hq
    refine isTrue_and (thn (ht.run pins s σ H _ I h2) fun c s1 ⟨H1, I1, q1⟩ => ?_)
    cases c with
    | true => exact hr.andT.run wh pins s1 σ H1 Q I1 q1
    | false => exact ⟨H1, I1, tT_some (b := false) (fun ρ => rfl) q1⟩⟩
theorem PEs.orT {pos : Pos} : ∀ {as : Exs} {es : List Expr}, PEs Φ Mu mp X as es → PW X (.BoolOp .Or es pos) (tT (kw X) (denB Φ Mu mp false as))
  | _, _, .nil => ⟨fun wh pins s σ H Q I h => isTrue_or_nil ⟨H, I, tT_some (denB_nil false) h⟩⟩
  | _, _, .cons (a := a) (r := r) (e := e) (es := es) h h1 ht hr => ⟨fun wh pins s σ H Q I hq => by
    have h2 := tT_bind (D1 := bT (den Φ Mu mp a)) (D2 := fun ρ => some (true, ρ)) (D3 := denB Φ Mu mp false r) (fun ρ => denB_or a r ρ) hq
    refine isTrue_or (thn (ht.run pins s σ H _ I h2) fun c s1 ⟨H1, I1, q1⟩ => ?_)
    cases c with
    | false => exact hr.orT.run wh pins s1 σ H1 Q I1 q1
    | true => exact ⟨H1, I1, tT_some (b := true) (fun ρ => rfl) q1⟩⟩
theorem PEs.andE {pos : Pos} : ∀ {as : Exs} {e : Expr} {es : List Expr}, PEs Φ Mu mp X as (e :: es) → PE X (.BoolOp .And (e :: es) pos) (tM (kw X) (tB (denB Φ Mu mp true as)))
  | _, _, [], .cons (a := a) h h1 ht .nil => ⟨fun pins s σ H Q I hq => BoolOp_one (by
    have h2 := tT_bind (D1 := bT (den Φ Mu mp a)) (D2 := denB Φ Mu mp true .nil) (D3 := fun ρ => some (false, ρ)) (fun ρ => denB_and a .nil ρ) (tB_of hq)
    refine thn (h1.run pins s σ H _ I (tT_of h2)) fun u s1 ⟨x, H1, I1, r1, k, e, q⟩ => ⟨x, H1, I1, r1, ?_⟩
    subst e
    cases k with
    | true => exact tT_some (denB_nil true) q
    | false => exact tT_some (b := false) (fun ρ => rfl) q)⟩
  | _, _, e2 :: es, .cons (a := a) (r := r) h h1 ht hr => ⟨fun pins s σ H Q I hq => by
    have h2 := tT_bind (D1 := bT (den Φ Mu mp a)) (D2 := denB Φ Mu mp true r) (D3 := fun ρ => some (false, ρ)) (fun ρ => denB_and a r ρ) (tB_of hq)
    refine BoolOp_and (thn (h1.run pins s σ H _ I (tT_of h2)) fun v s1 ⟨x, H1, I1, r1, c, e, q1⟩ => ?_)
    subst e
    cases r1
    refine wpAny_truthy_bool ?_
    cases c with
    | true =>
      obtain ⟨ρ, b, ρ', R, ee, k⟩ := q1
      exact hr.andE.run pins s1 σ H1 Q I1 ⟨ρ, .sh (.bool b), ρ', R, by unfold tB; rw [ee], fun x H' o rr => by cases rr; exact k H' o⟩
    | false => exact ⟨.bl false, H1, I1, rfl, tT_some (b := false) (fun ρ => rfl) q1⟩⟩
theorem PEs.orE {pos : Pos} : ∀ {as : Exs} {e : Expr} {es : List Expr}, PEs Φ Mu mp X as (e :: es) → PE X (.BoolOp .Or (e :: es) pos) (tM (kw X) (tB (denB Φ Mu mp false as)))
  | _, _, [], .cons (a := a) h h1 ht .nil => ⟨fun pins s σ H Q I hq => BoolOp_one (by
    have h2 := tT_bind (D1 := bT (den Φ Mu mp a)) (D2 := fun ρ => some (true, ρ)) (D3 := denB Φ Mu mp false .nil) (fun ρ => denB_or a .nil ρ) (tB_of hq)
    refine thn (h1.run pins s σ H _ I (tT_of h2)) fun u s1 ⟨x, H1, I1, r1, k, e, q⟩ => ⟨x, H1, I1, r1, ?_⟩
    subst e
    cases k with
    | false => exact tT_some (denB_nil false) q
    | true => exact tT_some (b := true) (fun ρ => rfl) q)⟩
  | _, _, e2 :: es, .cons (a := a) (r := r) h h1 ht hr => ⟨fun pins s σ H Q I hq => by
    have h2 := tT_bind (D1 := bT (den Φ Mu mp a)) (D2 := fun ρ => some (true, ρ)) (D3 := denB Φ Mu mp false r) (fun ρ => denB_or a r ρ) (tB_of hq)
    refine BoolOp_or (thn (h1.run pins s σ H _ I (tT_of h2)) fun v s1 ⟨x, H1, I1, r1, c, e, q1⟩ => ?_)
    subst e
    cases r1
    refine wpAny_truthy_bool ?_
    cases c with
    | false =>
      obtain ⟨ρ, b, ρ', R, ee, k⟩ := q1
      exact hr.orE.run pins s1 σ H1 Q I1 ⟨ρ, .sh (.bool b), ρ', R, by unfold tB; rw [ee], fun x H' o rr => by cases rr; exact k H' o⟩
    | true => exact ⟨.bl true, H1, I1, rfl, tT_some (b := true) (fun ρ => rfl) q1⟩⟩
end
end MP

/-! MP: calls of defs, methods, slices. -/
namespace MP
open PySem PySem.Spec PyProof.Rows L2

/-! ### calls -/
def mutA : List Bool → List V → List Addr
  | true :: ms, .ref p :: xs => p :: mutA ms xs
  | _ :: ms, _ :: xs => mutA ms xs
  | _, _ => []
inductive ArgR (K : MKx) (H : Hp) : List Bool → List V → List PyData → Prop where
  | nil : ArgR K H [] [] []
  | sh {ms x xs d ds} : Rep K H x d → ArgR K H ms xs ds → ArgR K H (false :: ms) (x :: xs) (d :: ds)
  | mu {ms p xs l ds} : OwnL K H p l → ArgR K H ms xs ds → ArgR K H (true :: ms) (.ref p :: xs) (.list l :: ds)
inductive FinR (K : MKx) (H : Hp) : List Bool → List V → List PyData → Prop where
  | nil : FinR K H [] [] []
  | sh {ms x xs ds} : FinR K H ms xs ds → FinR K H (false :: ms) (x :: xs) ds
  | mu {ms p xs l ds} : OwnL K H p l → FinR K H ms xs ds → FinR K H (true :: ms) (.ref p :: xs) (.list l :: ds)
structure PostM (K : MKx) (mu : List Bool) (vs : List V) (r : Bool × PyData) (fin : List PyData) (H : Hp) (x : V) (H' : Hp) : Prop where
  keep : ∀ a o, H a = some o → a ∉ mutA mu vs → H' a = some o
  there : ∀ a o, H a = some o → ∃ o', H' a = some o'
  fin : FinR K H' mu vs fin
  res : NewR K H H' r.1 r.2 x
/-- what a def promises, in data -/
def spM (K : MKx) (φ : List (Bool × PyData) → Option ((Bool × PyData) × List PyData)) (mu : List Bool) (vs : List V) (H : Hp) (Q : VK) : Prop :=
  ∃ ds r fin, mu.length = vs.length ∧ φ (mu.zip ds) = some (r, fin) ∧ ArgR K H mu vs ds ∧ (mutA mu vs).Nodup ∧ ∀ x H', PostM K mu vs r fin H x H' → Q x H'
def FnM (P : Program) (w : World) (K : MKx) (mg : Str → Option Value) (base : Heap) (A : Around) (a : Addr) (φ : List (Bool × PyData) → Option ((Bool × PyData) × List PyData)) (mu : List Bool) : Prop :=
  ∀ (outer : List PySem.Env) (s : Shared) (H : Hp) (us : List Value) (vs : List V) (Q : VK), Env0 P w K mg base A outer s H → Vals vs us → spM K φ mu vs H Q →
    codeAny (model P w) A (.call (.ref a) ⟨us, []⟩) (fun r s' => match r with | .ok (.ret u) => CE outer P w H s Q u s' | _ => False) s
section
variable {K : MKx} {σ : L2.St} {ρ ρ' ρf : Env} {H H' H1 H2 : Hp}
theorem frzR_out {r : Res} {i : Nat} (h : i ∉ bors [r]) : (frzR ρ r)[i]? = ρ[i]? := by
  unfold frzR
  split
  · rename_i j
    have hj : j ≠ i := fun z => h (by simp [bors, z])
    split
    · rw [List.getElem?_set_ne hj]
    · rfl
  · rfl
theorem bors_cons {r : Res} {rs : List Res} : bors (r :: rs) = bors [r] ++ bors rs := by cases r <;> rfl
theorem frzRs_out : ∀ {rs : List Res} {ρ : Env} {i : Nat}, i ∉ bors rs → (frzRs ρ rs)[i]? = ρ[i]?
  | [], _, _, _ => rfl
  | r :: rs, ρ, i, h => by
    rw [bors_cons, List.mem_append, not_or] at h
    unfold frzRs
    rw [frzRs_out h.2, frzR_out h.1]
theorem frzR_length (r : Res) : (frzR ρ r).length = ρ.length := by
  unfold frzR
  split
  · split
    · rw [List.length_set]
    · rfl
  · rfl
theorem frzRs_length : ∀ (rs : List Res) {ρ : Env}, (frzRs ρ rs).length = ρ.length
  | [], _ => rfl
  | r :: rs, ρ => by
    unfold frzRs
    rw [frzRs_length rs, frzR_length]
theorem fz_res : ∀ {ms : List Bool} {rs : List Res} {xs : List V}, ResAll K σ H H1 rs xs → ResAll K σ H H1 (fz ms rs) (fz ms xs)
  | [], _, _, _ => by simp only [fz]; exact .nil
  | true :: ms, _, _, .nil => .nil
  | false :: ms, _, _, .nil => .nil
  | true :: ms, _, _, .cons _ r => fz_res (ms := ms) r
  | false :: ms, _, _, .cons a r => .cons a (fz_res (ms := ms) r)
theorem owns_cons {r : Res} {x : V} {rs : List Res} {xs : List V} : owns (r :: rs) (x :: xs) = owns [r] [x] ++ owns rs xs := by cases r <;> cases x <;> rfl
theorem fz_owns : ∀ {ms : List Bool} {rs : List Res} {xs : List V}, rs.length = xs.length → (owns (fz ms rs) (fz ms xs)).Sublist (owns rs xs)
  | [], _, _, _ => by simp only [fz, owns]; exact List.nil_sublist _
  | true :: ms, [], [], _ => by simp only [fz, owns]; exact List.nil_sublist _
  | false :: ms, [], [], _ => by simp only [fz, owns]; exact List.nil_sublist _
  | true :: ms, r :: rs, x :: xs, h => by
    rw [owns_cons]
    exact (fz_owns (ms := ms) (by simpa using h)).trans (List.sublist_append_right _ _)
  | false :: ms, r :: rs, x :: xs, h => by
    show (owns (r :: fz ms rs) (x :: fz ms xs)).Sublist (owns (r :: rs) (x :: xs))
    rw [owns_cons (rs := rs), owns_cons (rs := fz ms rs)]
    exact (List.Sublist.refl _).append (fz_owns (ms := ms) (by simpa using h))
theorem ResAll.length : ∀ {rs : List Res} {xs : List V}, ResAll K σ H H1 rs xs → rs.length = xs.length
  | _, _, .nil => rfl
  | _, _, .cons _ r => by rw [List.length_cons, List.length_cons, ResAll.length r]
theorem valsOf_fz : ∀ {ms : List Bool} {rs : List Res} {vs : List (Bool × PyData)}, argVals ρ ms rs = some vs → valsOf ρ (fz ms rs) = some (fz ms (vs.map (·.2))) ∧ vs.map (·.1) = ms
  | [], [], _, e => by
    cases e
    exact ⟨rfl, rfl⟩
  | [], _ :: _, _, e => by cases e
  | _ :: _, [], _, e => by cases e
  | m :: ms, r :: rs, vs, e => by
    unfold argVals at e
    split at e
    · rename_i d ds h1 h2
      cases e
      obtain ⟨g1, g2⟩ := valsOf_fz h2
      cases m with
      | true => exact ⟨g1, by simp [g2]⟩
      | false =>
        refine ⟨?_, by simp [g2]⟩
        simp only [fz, List.map_cons]
        unfold valsOf
        simp only [h1, g1]
    · cases e
theorem zip_fst_snd : ∀ (vs : List (Bool × PyData)), (vs.map (·.1)).zip (vs.map (·.2)) = vs
  | [] => rfl
  | v :: vs => by rw [List.map_cons, List.map_cons, List.zip_cons_cons, zip_fst_snd vs]
/-- the arguments, behind the fixing -/
theorem arg_rel (R : EnvRel K σ ρf H2) : ∀ {ms : List Bool} {rs : List Res} {xs : List V} {vs : List (Bool × PyData)}, argOk ms rs = true → ResAll K σ H H1 rs xs → argVals ρ ms rs = some vs → RepAll K H2 (fz ms xs) (fz ms (vs.map (·.2))) → (∀ i ∈ mutPl ms rs, ρf[i]? = ρ[i]?) →
    ArgR K H2 ms xs (vs.map (·.2)) ∧ ms.length = xs.length ∧ ∀ p ∈ mutA ms xs, ∃ i ∈ mutPl ms rs, σ[i]? = some (some (V.ref p))
  | [], [], _, _, _, .nil, e, _, _ => by
    cases e
    exact ⟨.nil, rfl, fun p hp => by simp [mutA] at hp⟩
  | [], _ :: _, _, _, ok, _, _, _, _ => by cases ok
  | true :: _, [], _, _, ok, _, _, _, _ => by cases ok
  | false :: _, [], _, _, ok, _, _, _, _ => by cases ok
  | true :: ms, .sh _ :: rs, _, _, ok, _, _, _, _ => by cases ok
  | true :: ms, .own _ :: rs, _, _, ok, _, _, _, _ => by cases ok
  | true :: ms, .bor i :: rs, _, vs, ok, .cons (x := x) (xs := xs) r1 rr, e, ra, ho => by
    unfold argVals at e
    split at e
    · rename_i d ds h1 h2
      cases e
      obtain ⟨p, rfl, hs⟩ := r1
      obtain ⟨a, l, m⟩ := arg_rel R (ms := ms) ok rr h2 ra fun j hj => ho j (List.mem_cons_of_mem _ hj)
      obtain ⟨q, es, g1, rfl, g3⟩ := R.own i d (by rw [ho i (List.mem_cons_self ..)]; exact valOf_bor h1)
      rw [hs] at g1
      cases g1
      refine ⟨.mu g3 a, by rw [List.length_cons, List.length_cons, l], fun q hq => ?_⟩
      simp only [mutA, List.mem_cons] at hq
      rcases hq with rfl | hq
      · exact ⟨i, List.mem_cons_self .., hs⟩
      · obtain ⟨j, hj, z⟩ := m q hq
        exact ⟨j, List.mem_cons_of_mem _ hj, z⟩
    · cases e
  | false :: ms, r :: rs, _, vs, ok, .cons (x := x) (xs := xs) r1 rr, e, ra, ho => by
    unfold argVals at e
    split at e
    · rename_i d ds h1 h2
      cases e
      have ok' : argOk ms rs = true := by simpa [argOk] using ok
      have hm : mutPl (false :: ms) (r :: rs) = mutPl ms rs := by simp [mutPl]
      rw [hm] at ho ⊢
      cases ra with
      | cons g1 g2 =>
        obtain ⟨a, l, m⟩ := arg_rel R (ms := ms) ok' rr h2 g2 ho
        exact ⟨.sh g1 a, by rw [List.length_cons, List.length_cons, l], by simpa [mutA] using m⟩
    · cases e
/-- what the slots hold behind a call -/
theorem put_at : ∀ {ms : List Bool} {rs : List Res} {xs : List V} {fin : List PyData} {ρf ρ2 : Env}, argOk ms rs = true → ResAll K σ H H1 rs xs → FinR K H2 ms xs fin → (mutPl ms rs).Nodup → putAll (mutPl ms rs) fin ρf = some ρ2 →
    ρ2.length = ρf.length ∧ (∀ i, i ∉ mutPl ms rs → ρ2[i]? = ρf[i]?) ∧ ∀ i ∈ mutPl ms rs, i < ρf.length → ∃ p l, σ[i]? = some (some (V.ref p)) ∧ p ∈ mutA ms xs ∧ ρ2[i]? = some (some (true, .list l)) ∧ OwnL K H2 p l
  | [], [], _, _, _, _, _, .nil, .nil, _, e => by
    cases e
    exact ⟨rfl, fun _ _ => rfl, fun i hi => by simp [mutPl] at hi⟩
  | [], _ :: _, _, _, _, _, ok, _, _, _, _ => by cases ok
  | true :: _, [], _, _, _, _, ok, _, _, _, _ => by cases ok
  | false :: _, [], _, _, _, _, ok, _, _, _, _ => by cases ok
  | true :: ms, .sh _ :: rs, _, _, _, _, ok, _, _, _, _ => by cases ok
  | true :: ms, .own _ :: rs, _, _, _, _, ok, _, _, _, _ => by cases ok
  | true :: ms, .bor i :: rs, _, _, ρf, ρ2, ok, .cons (x := x) (xs := xs) r1 rr, fr, nd, e => by
    obtain ⟨p, rfl, hs⟩ := r1
    cases fr
    rename_i l ds o fr
    replace e : putAll (mutPl ms rs) ds (ρf.set i (some (true, .list l))) = some ρ2 := e
    replace nd : (i :: mutPl ms rs).Nodup := nd
    rw [List.nodup_cons] at nd
    obtain ⟨h1, h2, h3⟩ := put_at (ms := ms) ok rr fr nd.2 e
    rw [List.length_set] at h1 h3
    refine ⟨h1, fun j hj => ?_, fun j hj hl => ?_⟩
    · replace hj : j ∉ i :: mutPl ms rs := hj
      rw [List.mem_cons, not_or] at hj
      rw [h2 j hj.2, List.getElem?_set_ne fun z => hj.1 z.symm]
    · replace hj : j ∈ i :: mutPl ms rs := hj
      rcases List.mem_cons.mp hj with rfl | hj
      · exact ⟨p, l, hs, List.mem_cons_self .., by rw [h2 j nd.1, List.getElem?_set_self hl], o⟩
      · obtain ⟨p', l', g1, g2, g3, g4⟩ := h3 j hj hl
        exact ⟨p', l', g1, List.mem_cons_of_mem _ g2, g3, g4⟩
  | false :: ms, r :: rs, _, _, ρf, ρ2, ok, .cons (x := x) (xs := xs) r1 rr, .sh fr, nd, e => by
    have ok' : argOk ms rs = true := by simpa [argOk] using ok
    have hm : mutPl (false :: ms) (r :: rs) = mutPl ms rs := by simp [mutPl]
    rw [hm] at nd e ⊢
    obtain ⟨h1, h2, h3⟩ := put_at (ms := ms) ok' rr fr nd e
    refine ⟨h1, h2, fun j hj hl => ?_⟩
    obtain ⟨p', l', g1, g2, g3, g4⟩ := h3 j hj hl
    exact ⟨p', l', g1, by simpa [mutA] using g2, g3, g4⟩
theorem mutA_mem : ∀ {ms : List Bool} {rs : List Res} {xs : List V}, argOk ms rs = true → ResAll K σ H H1 rs xs → ∀ p ∈ mutA ms xs, ∃ i ∈ mutPl ms rs, σ[i]? = some (some (V.ref p))
  | [], [], _, _, .nil, p, hp => by simp [mutA] at hp
  | [], _ :: _, _, ok, _, _, _ => by cases ok
  | true :: _, [], _, ok, _, _, _ => by cases ok
  | false :: _, [], _, ok, _, _, _ => by cases ok
  | true :: ms, .sh _ :: rs, _, ok, _, _, _ => by cases ok
  | true :: ms, .own _ :: rs, _, ok, _, _, _ => by cases ok
  | true :: ms, .bor i :: rs, _, ok, .cons (x := x) (xs := xs) r1 rr, q, hq => by
    obtain ⟨p, rfl, hs⟩ := r1
    rcases List.mem_cons.mp (show q ∈ p :: mutA ms xs from hq) with rfl | hq
    · exact ⟨i, List.mem_cons_self .., hs⟩
    · obtain ⟨j, hj, z⟩ := mutA_mem (ms := ms) ok rr q hq
      exact ⟨j, List.mem_cons_of_mem _ hj, z⟩
  | false :: ms, r :: rs, _, ok, .cons (x := x) (xs := xs) r1 rr, q, hq => by
    have ok' : argOk ms rs = true := by simpa [argOk] using ok
    obtain ⟨j, hj, z⟩ := mutA_mem (ms := ms) ok' rr q (by simpa [mutA] using hq)
    exact ⟨j, by simpa [mutPl] using hj, z⟩
theorem mutA_nodup (R : EnvRel K σ ρf H2) : ∀ {ms : List Bool} {rs : List Res} {xs : List V}, argOk ms rs = true → ResAll K σ H H1 rs xs → (mutPl ms rs).Nodup → (∀ i ∈ mutPl ms rs, ∃ d, ρf[i]? = some (some (true, d))) → (mutA ms xs).Nodup
  | [], [], _, _, .nil, _, _ => by simp [mutA]
  | [], _ :: _, _, ok, _, _, _ => by cases ok
  | true :: _, [], _, ok, _, _, _ => by cases ok
  | false :: _, [], _, ok, _, _, _ => by cases ok
  | true :: ms, .sh _ :: rs, _, ok, _, _, _ => by cases ok
  | true :: ms, .own _ :: rs, _, ok, _, _, _ => by cases ok
  | true :: ms, .bor i :: rs, _, ok, .cons (x := x) (xs := xs) r1 rr, nd, ho => by
    obtain ⟨p, rfl, hs⟩ := r1
    replace nd : (i :: mutPl ms rs).Nodup := nd
    rw [List.nodup_cons] at nd
    show (p :: mutA ms xs).Nodup
    rw [List.nodup_cons]
    refine ⟨fun hp => ?_, mutA_nodup R (ms := ms) ok rr nd.2 fun j hj => ho j (List.mem_cons_of_mem _ hj)⟩
    obtain ⟨j, hj, z⟩ := mutA_mem (ms := ms) ok rr p hp
    obtain ⟨d, h1⟩ := ho i (List.mem_cons_self ..)
    obtain ⟨e, h2⟩ := ho j (List.mem_cons_of_mem _ hj)
    have := R.inj i j d e p h1 h2 hs z
    subst this
    exact nd.1 hj
  | false :: ms, r :: rs, _, ok, .cons r1 rr, nd, ho => by
    have ok' : argOk ms rs = true := by simpa [argOk] using ok
    have hm : mutPl (false :: ms) (r :: rs) = mutPl ms rs := by simp [mutPl]
    rw [hm] at nd ho
    have := mutA_nodup R (ms := ms) ok' rr nd ho
    simpa [mutA] using this
theorem argVals_own : ∀ {ms : List Bool} {rs : List Res} {vs : List (Bool × PyData)}, argOk ms rs = true → argVals ρ ms rs = some vs → ∀ i ∈ mutPl ms rs, ∃ d, ρ[i]? = some (some (true, d))
  | [], [], _, _, _, i, hi => by simp [mutPl] at hi
  | [], _ :: _, _, ok, _, _, _ => by cases ok
  | true :: _, [], _, ok, _, _, _ => by cases ok
  | false :: _, [], _, ok, _, _, _ => by cases ok
  | true :: ms, .sh _ :: rs, _, ok, _, _, _ => by cases ok
  | true :: ms, .own _ :: rs, _, ok, _, _, _ => by cases ok
  | true :: ms, .bor j :: rs, vs, ok, e, i, hi => by
    unfold argVals at e
    split at e
    · rename_i d ds h1 h2
      rcases List.mem_cons.mp (show i ∈ j :: mutPl ms rs from hi) with rfl | hi
      · exact ⟨d, valOf_bor h1⟩
      · exact argVals_own (ms := ms) ok h2 i hi
    · cases e
  | false :: ms, r :: rs, vs, ok, e, i, hi => by
    unfold argVals at e
    split at e
    · rename_i d ds h1 h2
      have ok' : argOk ms rs = true := by simpa [argOk] using ok
      exact argVals_own (ms := ms) ok' h2 i (by simpa [mutPl] using hi)
    · cases e
/-- the slots behind a call -/
theorem call_out {ρ2 : Env} {ms : List Bool} {rs : List Res} {xs : List V} {r : Bool × PyData} {fin : List PyData} {x : V} (R : EnvRel K σ ρ H) (a : Out K σ ρ H ρf H1) (ok : argOk ms rs = true) (rr : ResAll K σ H H2 rs xs) (nd : (mutPl ms rs).Nodup)
    (ho : ∀ i ∈ mutPl ms rs, ∃ d, ρf[i]? = some (some (true, d))) (P : PostM K ms xs r fin H1 x H') (e : putAll (mutPl ms rs) fin ρf = some ρ2) : Out K σ ρ H ρ2 H' := by
  obtain ⟨p1, p2, p3⟩ := put_at ok rr P.fin nd e
  have own_of : ∀ p ∈ mutA ms xs, Owned σ ρf p := fun p hp => by
    obtain ⟨i, hi, z⟩ := mutA_mem ok rr p hp
    obtain ⟨d, h⟩ := ho i hi
    exact ⟨i, d, h, z⟩
  have ex : Ext H1 H' := fun b => by
    have no : ∀ o, H1 b = some o → (∀ ys, o ≠ .lst ys) → b ∉ mutA ms xs := fun o e n z => by
      obtain ⟨ys, q⟩ := a.env.owned (own_of b z)
      rw [e] at q
      cases q
      exact n _ rfl
    exact ⟨fun ys e => P.keep b _ e (no _ e fun _ z => nomatch z), fun o u e => P.keep b _ e (no _ e fun _ z => nomatch z)⟩
  have hlt : ∀ i ∈ mutPl ms rs, i < ρf.length := fun i hi => by
    obtain ⟨d, h⟩ := ho i hi
    exact (List.getElem?_eq_some_iff.mp h).1
  have less : ∀ b, Owned σ ρ2 b → Owned σ ρf b := fun b ⟨i, d, h1, h2⟩ => by
    by_cases hi : i ∈ mutPl ms rs
    · obtain ⟨e, he⟩ := ho i hi
      exact ⟨i, e, he, h2⟩
    · rw [p2 i hi] at h1
      exact ⟨i, d, h1, h2⟩
  refine ⟨⟨p1.trans a.env.len, fun i d h => ?_, fun i d h => ?_, fun i j d e p h1 h2 h3 h4 => ?_⟩, fun b o h n => P.keep b o (a.keep b o h n) fun z => n (a.less b (own_of b z)), fun b h => a.less b (less b h), fun b o h => ?_⟩
  · by_cases hi : i ∈ mutPl ms rs
    · obtain ⟨p, l, _, _, g, _⟩ := p3 i hi (hlt i hi)
      rw [g] at h
      cases h
    · rw [p2 i hi] at h
      obtain ⟨y, h1, h2⟩ := a.env.sh i d h
      exact ⟨y, h1, h2.ext ex⟩
  · by_cases hi : i ∈ mutPl ms rs
    · obtain ⟨p, l, g1, g2, g3, g4⟩ := p3 i hi (hlt i hi)
      rw [g3] at h
      cases h
      exact ⟨p, l, g1, rfl, g4⟩
    · rw [p2 i hi] at h
      obtain ⟨p, l, h1, h2, ys, h3, h4⟩ := a.env.own i d h
      refine ⟨p, l, h1, h2, ys, P.keep p _ h3 fun z => hi ?_, h4.ext ex⟩
      obtain ⟨j, hj, hz⟩ := mutA_mem ok rr p z
      obtain ⟨e, he⟩ := ho j hj
      rw [a.env.inj i j d e p h he h1 hz]
      exact hj
  · have up : ∀ {i : Nat} {d : PyData}, ρ2[i]? = some (some (true, d)) → ∃ e, ρf[i]? = some (some (true, e)) := fun {i d} h => by
      by_cases hi : i ∈ mutPl ms rs
      · exact ho i hi
      · rw [p2 i hi] at h
        exact ⟨d, h⟩
    obtain ⟨d', g1⟩ := up h1
    obtain ⟨e', g2⟩ := up h2
    exact a.env.inj i j d' e' p g1 g2 h3 h4
  · obtain ⟨o', h'⟩ := a.there b o h
    exact P.there b o' h'
end
end MP

/-! MP: expressions, one by one. -/
namespace MP
open PySem PySem.Spec PyProof.Rows L2

/-- the names of built-ins that are used -/
def blts : List Str := ["len", "isinstance", "int", "tuple", "list", "sum", "sorted", "all", "any", "repr", "min", "max", "range", "enumerate", "zip", "bool", "str", "dict"]
/-- what is known of the context -/
structure Gd (Φ : Ph) (Mu : Nat → List Bool) (c : Ck) (X : Cx) : Prop extends Gd0 c X where
  un : X.A.units + 200 < cLine
  gds : X.A.guards = some []
  blt : ∀ x ∈ blts, X.mg x = none
  fn' : ∀ (f : Nat) (x : Str), c.fs[f]? = some x → ∃ a, X.mg x = some (.ref a) ∧ PySem.W.keepIn (kw X) (.ref a) = true ∧ FnM X.prog X.w (kw X) X.mg X.base X.A a (Φ f) (Mu f)
  gl' : ∀ p ∈ c.gl, ∃ u v, X.mg p.1 = some u ∧ RelV v u ∧ ∀ H, Rep (kw X) H v p.2
section
variable {Φ : Ph} {Mu : Nat → List Bool} {mp : List Nat} {c : Ck} {X : Cx}
theorem den_op {o : Op} {es : Exs} (h : o.stores = false) : den Φ Mu mp (.op o es) = dOp o (dens Φ Mu mp es) := by
  funext ρ
  rw [den]
  unfold dOp
  cases dens Φ Mu mp es ρ with
  | none => rfl
  | some y =>
    simp only
    cases valsOf y.2 y.1 with
    | none => rfl
    | some ds =>
      simp only
      cases opS o ds with
      | none => rfl
      | some r =>
        simp only [h]
        rfl
/-- a place of a name -/
theorem pe_v {i : Nat} {x : Str} {pos : Pos} (G : Gd0 c X) (hi : c.N[i]? = some x) (hv : visB c x = true) (hd : (x == ("__debug__" : Str)) = false) (hcd : (x == ("__classdict__" : Str)) = false) : PE X (.Name x pos) (tM (kw X) (den Φ Mu mp (.var i))) := by
  refine PE.imp (pe_var (i := i) (by rw [G.n]; exact hi) (G.vis hv) hd hcd) fun σ H Q ⟨ρ, r, ρ', R, e, k⟩ => ?_
  rw [den] at e
  split at e
  · rename_i d h
    cases e
    obtain ⟨p, ds, h1, h2, h3⟩ := R.own i d h
    exact ⟨.ref p, h1, k _ H (Out.refl R) ⟨p, rfl, h1⟩⟩
  · rename_i d h
    cases e
    obtain ⟨y, h1, h2⟩ := R.sh i d h
    exact ⟨y, h1, k _ H (Out.refl R) h2⟩
  · cases e
/-- a written constant -/
def csB : Cs → Const → Bool
  | .non, .none => true
  | .bl b, .bool b' => b == b'
  | .int i, .int j => decide (i = j)
  | .str s, .str z => decide (Str.ofString s = z)
  | _, _ => false
theorem pe_cs {k : Cs} {z : Const} {n : Nat} {pos : Pos} (h : csB k z = true) : PE X (.Constant z n pos) (tM (kw X) (den Φ Mu mp (.cst k))) := by
  have fin : ∀ {v : V} {σ : L2.St} {H : Hp} {Q : VK}, (∀ H : Hp, Rep (kw X) H v (csD k)) → tM (kw X) (den Φ Mu mp (.cst k)) σ H Q → tC v σ H Q := fun {v σ H Q} r ⟨ρ, rr, ρ', R, e, kk⟩ => by
    rw [den] at e
    cases e
    exact kk v H (Out.refl R) (r H)
  cases k with
  | non =>
    cases z <;> try (cases h; done)
    exact PE.imp pe_non fun σ H Q q => fin (fun _ => .non) q
  | bl b =>
    cases z <;> try (cases h; done)
    have e := eq_of_beq (show (b == _) = true from h)
    subst e
    exact PE.imp pe_bl fun σ H Q q => fin (fun _ => .bl _) q
  | int i =>
    cases z <;> try (cases h; done)
    have e := of_decide_eq_true (show decide (i = _) = true from h)
    subst e
    exact PE.imp pe_int fun σ H Q q => fin (fun _ => .int _) q
  | str s =>
    cases z <;> try (cases h; done)
    have e := of_decide_eq_true (show decide (Str.ofString s = _) = true from h)
    subst e
    exact PE.imp pe_str fun σ H Q q => fin (fun _ => .str _) q
  | emp => cases h
/-- a global constant -/
theorem pe_g {x : String} {d : PyData} {pos : Pos} (G : Gd Φ Mu c X) (h : (Str.ofString x, d) ∈ c.gl) (hg : glB c (Str.ofString x) = true) (hd : (Str.ofString x == ("__debug__" : Str)) = false) : PE X (.Name (Str.ofString x) pos) (tM (kw X) (den Φ Mu mp (.glb x d))) := by
  obtain ⟨u, v, h1, h2, h3⟩ := G.gl' _ h
  refine PE.imp (pe_glob (G.toGd0.gl hg) h1 h2 hd) fun σ H Q ⟨ρ, r, ρ', R, e, k⟩ => ?_
  rw [den] at e
  cases e
  exact k v H (Out.refl R) (h3 H)
/-! ### operations -/
theorem pe_bin {o : Op} {op : Operator} {a b : Ex} {l r : Expr} {pos : Pos} (ho : OpV X (binaryOp op) o) (hs : o.stores = false) (h : PEs Φ Mu mp X (.cons a (.cons b .nil)) [l, r]) : PE X (.BinOp l op r pos) (tM (kw X) (den Φ Mu mp (.op o (.cons a (.cons b .nil))))) := by
  cases h with
  | cons _ h1 _ h =>
    cases h with
    | cons _ h2 _ _ =>
      rw [den_op hs]
      exact PE.imp (pe_op ho h1 h2) fun σ H Q q => args2 (tM_op q)
theorem pe_uny {o : Op} {op : UnaryOp} {a : Ex} {l : Expr} {pos : Pos} (ho : UnV X (unaryOp op) o) (hs : o.stores = false) (h : PEs Φ Mu mp X (.cons a .nil) [l]) : PE X (.UnaryOp op l pos) (tM (kw X) (den Φ Mu mp (.op o (.cons a .nil)))) := by
  cases h with
  | cons _ h1 _ h =>
    rw [den_op hs]
    exact PE.imp (pe_un ho h1) fun σ H Q q => args1 (tM_op q)
theorem pe_cm {o : Op} {op : CmpOp} {a b : Ex} {l r : Expr} {pos : Pos} (ho : OpV X (compareOp op) o) (hs : o.stores = false) (hm : behindInMarks op r = false) (h : PEs Φ Mu mp X (.cons a (.cons b .nil)) [l, r]) :
    PE X (.Compare l [op] [r] pos) (tM (kw X) (den Φ Mu mp (.op o (.cons a (.cons b .nil))))) ∧ PT X (.Compare l [op] [r] pos) (tT (kw X) (bT (den Φ Mu mp (.op o (.cons a (.cons b .nil)))))) := by
  cases h with
  | cons _ h1 _ h =>
    cases h with
    | cons _ h2 _ _ =>
      rw [den_op hs]
      exact ⟨PE.imp (pe_cmpR ho h1 h2 hm) fun σ H Q q => args2 (tM_op q), PT.imp (pt_cmpR ho h1 h2 hm) fun σ H Q q => args2 (tM_op (tT_of q))⟩
/-- is None, is not None -/
theorem isNone_V {K : MKx} {H : Hp} {x : V} {d : PyData} (h : Readable K H x d) : decide (x = V.non) = isNone d := by
  rcases h with h | ⟨p, ds, rfl, rfl, _⟩
  · cases h <;> rfl
  · rfl
theorem pe_isN {a : Ex} {l : Expr} {j : Nat} {pos pos' : Pos} (h : PEs Φ Mu mp X (.cons a .nil) [l]) : PE X (.Compare l [.Is] [.Constant .none j pos'] pos) (tM (kw X) (den Φ Mu mp (.op .isN (.cons a .nil)))) ∧ PT X (.Compare l [.Is] [.Constant .none j pos'] pos) (tT (kw X) (bT (den Φ Mu mp (.op .isN (.cons a .nil))))) := by
  cases h with
  | cons _ h1 _ h =>
    rw [den_op rfl]
    have key : ∀ {σ : L2.St} {H : Hp} {Q : VK}, tM (kw X) (dOp .isN (dens Φ Mu mp (.cons a .nil))) σ H Q → tIsN (tM (kw X) (den Φ Mu mp a)) σ H Q := fun {σ H Q} q => by
      refine tM_mono (args1 (tM_op q)) fun x H1 ⟨ds, own, d, ra, e, k⟩ => ?_
      obtain ⟨d1, rfl, g⟩ := ra1 ra
      cases e
      rw [isNone_V g]
      exact k _ H1 (fun _ _ z => z) (new_sh (.bl _))
    exact ⟨PE.imp (pe_cmp (pc_isN h1)) fun σ H Q q => key q, PT.imp (pt_cmp (pc_isN h1)) fun σ H Q q => key (tT_of q)⟩
theorem pe_nisN {a : Ex} {l : Expr} {j : Nat} {pos pos' : Pos} (h : PEs Φ Mu mp X (.cons a .nil) [l]) : PE X (.Compare l [.IsNot] [.Constant .none j pos'] pos) (tM (kw X) (den Φ Mu mp (.op .nisN (.cons a .nil)))) ∧ PT X (.Compare l [.IsNot] [.Constant .none j pos'] pos) (tT (kw X) (bT (den Φ Mu mp (.op .nisN (.cons a .nil))))) := by
  cases h with
  | cons _ h1 _ h =>
    rw [den_op rfl]
    have key : ∀ {σ : L2.St} {H : Hp} {Q : VK}, tM (kw X) (dOp .nisN (dens Φ Mu mp (.cons a .nil))) σ H Q → tNotN (tM (kw X) (den Φ Mu mp a)) σ H Q := fun {σ H Q} q => by
      refine tM_mono (args1 (tM_op q)) fun x H1 ⟨ds, own, d, ra, e, k⟩ => ?_
      obtain ⟨d1, rfl, g⟩ := ra1 ra
      cases e
      rw [isNone_V g]
      exact k _ H1 (fun _ _ z => z) (new_sh (.bl _))
    exact ⟨PE.imp (pe_cmp (pc_notN h1)) fun σ H Q q => key q, PT.imp (pt_cmp (pc_notN h1)) fun σ H Q q => key (tT_of q)⟩
/-- not -/
theorem pe_no {a : Ex} {l : Expr} {pos : Pos} (h : PEs Φ Mu mp X (.cons a .nil) [l]) : PE X (.UnaryOp .Not l pos) (tM (kw X) (den Φ Mu mp (.op .not (.cons a .nil)))) ∧ PT X (.UnaryOp .Not l pos) (tT (kw X) (bT (den Φ Mu mp (.op .not (.cons a .nil))))) := by
  cases h with
  | cons _ h1 ht h =>
    rw [den_op rfl]
    have e1 : ∀ ρ, bT (dOp .not (dens Φ Mu mp (.cons a .nil))) ρ = match bT (den Φ Mu mp a) ρ with
        | some (true, ρ1) => some (false, ρ1)
        | some (false, ρ1) => some (true, ρ1)
        | none => none := fun ρ => by
      unfold bT dOp
      rw [dens]
      cases den Φ Mu mp a ρ with
      | none => rfl
      | some y =>
        obtain ⟨r, ρ1⟩ := y
        simp only
        rw [dens]
        simp only [valsOf, fixB_same]
        cases valOf ρ1 r with
        | none => rfl
        | some d =>
          cases d with
          | bool b => cases b <;> rfl
          | _ => rfl
    refine ⟨PE.imp (pe_not h1) fun σ H Q q => ?_, PT.imp (pt_not ht) fun σ H Q q => ?_⟩
    · refine tM_mono (args1 (tM_op q)) fun x H1 ⟨ds, own, d, ra, e, k⟩ => ?_
      obtain ⟨d1, rfl, g⟩ := ra1 ra
      cases d1 <;> try (cases e; done)
      cases e
      exact ⟨_, g.bool, k _ H1 (fun _ _ z => z) (new_sh (.bl _))⟩
    · have h2 := tT_bind (D1 := bT (den Φ Mu mp a)) (D2 := fun ρ => some (false, ρ)) (D3 := fun ρ => some (true, ρ)) e1 q
      refine tT_mono h2 fun b H1 q1 => ?_
      cases b with
      | true => exact tT_some (b := false) (fun _ => rfl) q1
      | false => exact tT_some (b := true) (fun _ => rfl) q1
/-- a test that is its value's truth -/
theorem pt_of {e : Expr} {D : DE} (h : PE X e (tM (kw X) D)) (he : ∀ whole, isTrue e X.env whole = (do let v ← whole; standAt e.pos; holding [v] (truthy v))) : PT X e (tT (kw X) (bT D)) := PT.imp (pt_val h he) fun σ H Q q => tT_of q
/-- calls of built-ins -/
theorem pe_cb {o : Op} {id : String} {x : Str} {a : Ex} {as : Exs} {e : Expr} {es : List Expr} {p pos : Pos} (G : Gd Φ Mu c X) (hc : CallV X (.builtin id) o) (hs : o.stores = false) (hg : glB c x = true) (hx : x ∈ blts) (hv : bootBuiltins x = some (.builtin id)) (hn : x ≠ "__name__") (hdb : (x == ("__debug__" : Str)) = false)
    (h : PEs Φ Mu mp X as (e :: es)) : PE X (.Call (.Name x p) (e :: es) [] pos) (tM (kw X) (den Φ Mu mp (.op o as))) := by
  rw [den_op hs]
  have hns := h.ns
  rw [List.all_cons, Bool.and_eq_true] at hns
  exact PE.imp (pe_callB hc (G.toGd0.gl hg) (G.blt x hx) hv h.pa hn hdb (star_cons hns.1) (star_plain hns.2)) fun σ H Q q => tM_op q
theorem pe_ct {o : Op} {T : String} {x : Str} {as : Exs} {e : Expr} {es : List Expr} {p pos : Pos} (G : Gd Φ Mu c X) (hc : CallV X (.type T) o) (hs : o.stores = false) (hg : glB c x = true) (hx : x ∈ blts) (hv : bootBuiltins x = some (.type T)) (hn : x ≠ "__name__") (hdb : (x == ("__debug__" : Str)) = false)
    (h : PEs Φ Mu mp X as (e :: es)) : PE X (.Call (.Name x p) (e :: es) [] pos) (tM (kw X) (den Φ Mu mp (.op o as))) := by
  rw [den_op hs]
  have hns := h.ns
  rw [List.all_cons, Bool.and_eq_true] at hns
  exact PE.imp (pe_callTy hc (G.toGd0.gl hg) (G.blt x hx) hv h.pa hn hdb (star_cons hns.1) (star_plain hns.2)) fun σ H Q q => tM_op q
/-! ### displays -/
theorem pe_tp {as : Exs} {es : List Expr} {k : Nat} {pos : Pos} (S : Sys X) (h : PEs Φ Mu mp X as es) : PE X (.Tuple es k pos) (tM (kw X) (den Φ Mu mp (.op .tup as))) := by
  refine PE.imp (pe_tup (PA.lk S h.pa)) fun σ H Q ⟨ρ, r, ρ', R, e, kk⟩ => ?_
  rw [den] at e
  split at e
  · rename_i rs ρ1 e1
    split at e
    · rename_i ds e2
      split at e
      · rename_i r' e3
        replace e3 : (if szOk ds.length then some (false, PyData.tuple ds) else none) = some r' := e3
        split at e3
        · rename_i hz
          cases e3
          cases e
          refine ⟨ρ, rs, ρ1, R, e1, fun xs H1 o1 r1 nd => frz_args R o1 r1 nd e2 fun H2 ex o2 ra => ⟨by rw [ra.length]; exact of_decide_eq_true hz, fun p hp => ?_⟩⟩
          exact kk _ _ (Stp.trans o2 (Out.more o2.env (kept_upd hp))) (.tup (.of upd_same) (ra.ext (Ext.upd hp)))
        · cases e3
      · cases e
    · cases e
  · cases e
theorem pe_ls {as : Exs} {es : List Expr} {pos : Pos} (S : Sys X) (h : PEs Φ Mu mp X as es) : PE X (.List es pos) (tM (kw X) (den Φ Mu mp (.op .lst as))) := by
  refine PE.imp (pe_lst (PA.lk S h.pa)) fun σ H Q ⟨ρ, r, ρ', R, e, kk⟩ => ?_
  rw [den] at e
  split at e
  · rename_i rs ρ1 e1
    split at e
    · rename_i ds e2
      split at e
      · rename_i r' e3
        replace e3 : (if szOk ds.length then some (true, PyData.list ds) else none) = some r' := e3
        split at e3
        · rename_i hz
          cases e3
          cases e
          refine ⟨ρ, rs, ρ1, R, e1, fun xs H1 o1 r1 nd => frz_args R o1 r1 nd e2 fun H2 ex o2 ra => ⟨by rw [ra.length]; exact of_decide_eq_true hz, fun p hp => ?_⟩⟩
          refine kk _ _ (Stp.trans o2 (Out.more o2.env (kept_upd hp))) ⟨p, ds, rfl, rfl, ⟨xs, upd_same, ra.ext (Ext.upd hp)⟩, ?_⟩
          cases hq : H p with
          | none => rfl
          | some o =>
            obtain ⟨o', z⟩ := o2.there p o hq
            rw [hp] at z
            cases z
        · cases e3
      · cases e
    · cases e
  · cases e
/-! ### isinstance -/
def tyN : PyData → String
  | .none => "NoneType"
  | .bool _ => "bool"
  | .int _ => "int"
  | .str _ => "str"
  | .list _ => "list"
  | .tuple _ => "tuple"
  | .dict _ => "dict"
def tnN : Tn → String
  | .int => "int"
  | .bool => "bool"
  | .str => "str"
  | .tuple => "tuple"
  | .list => "list"
  | .dict => "dict"
theorem tyx {K : MKx} {H : Hp} {x : V} {d : PyData} (h : Readable K H x d) : TyX K H x (.type (tyN d)) := by
  rcases h with h | ⟨p, ds, rfl, rfl, xs, hp, _⟩
  · cases h with
    | non => exact .base .non
    | bl b => exact .base (.bl b)
    | int i => exact .base (.int i)
    | str x => exact .base (.str x)
    | tup h _ =>
      rcases h with (h | ⟨o, h⟩) | ⟨o, its, n, hk, hc, _⟩
      · exact .base (.tup h)
      · exact .fTuple h
      · exact .kTuple hk hc
    | lst h _ _ => exact .base (.frz h)
    | dic h => exact .fDict h
  · exact .base (.lst hp)
theorem kit_isT {K : PySem.W.Frag} (d : PyData) (t : Tn) : PySem.W.kitOne K (.type (tyN d)) (.type (tnN t)) = some (isT d t) := by
  cases d <;> cases t <;> exact kit_ty (by kernel_rfl)
theorem kit_isTs {K : PySem.W.Frag} (d : PyData) : ∀ ts : List Tn, PySem.W.kitAny K (.type (tyN d)) (ts.map fun t => Value.type (tnN t)) = some (ts.any (isT d))
  | [] => kitAny_nil
  | t :: ts => by
    rw [List.map_cons, List.any_cons]
    refine kitAny_cons (kit_isT d t) (fun e => ?_) fun e => ?_
    · rw [e, Bool.false_or]
      exact kit_isTs d ts
    · rw [e]
      rfl
/-- a built-in type's name -/
def tyE (c : Ck) (t : Tn) : Expr → Bool
  | .Name x _ => decide (x = Str.ofString (tnN t)) && glB c x
  | _ => false
theorem tn_blt (t : Tn) : Str.ofString (tnN t) ∈ blts ∧ bootBuiltins (Str.ofString (tnN t)) = some (.type (tnN t)) ∧ Str.ofString (tnN t) ≠ "__name__" ∧ (Str.ofString (tnN t) == ("__debug__" : Str)) = false := by
  cases t <;> exact ⟨by decide +kernel, by kernel_rfl, by decide +kernel, by decide +kernel⟩
theorem pe_ty {t : Tn} {e : Expr} (G : Gd Φ Mu c X) (h : tyE c t e = true) : PE X e (tC (.ty (tnN t))) ∧ ns e = true := by
  cases e <;> try (cases h; done)
  rename_i x p
  replace h : (decide (x = Str.ofString (tnN t)) && glB c x) = true := h
  rw [Bool.and_eq_true, decide_eq_true_eq] at h
  obtain ⟨rfl, hg⟩ := h
  obtain ⟨h1, h2, h3, h4⟩ := tn_blt t
  exact ⟨pe_bltn (G.toGd0.gl hg) (G.blt _ h1) h2 rfl h3 h4, rfl⟩
def tysE (c : Ck) : List Tn → List Expr → Bool
  | [], [] => true
  | t :: ts, e :: es => tyE c t e && tysE c ts es
  | _, _ => false
def tTys (ts : List Tn) : TA := fun _ H Q => Q (ts.map fun t => V.ty (tnN t)) H
theorem pa_tys (G : Gd Φ Mu c X) : ∀ {ts : List Tn} {es : List Expr}, tysE c ts es = true → PA X es (tTys ts) ∧ es.all ns = true
  | [], [], _ => ⟨pa_nil, rfl⟩
  | [], _ :: _, h => by cases h
  | _ :: _, [], h => by cases h
  | t :: ts, e :: es, h => by
    replace h : (tyE c t e && tysE c ts es) = true := h
    rw [Bool.and_eq_true] at h
    obtain ⟨h1, h2⟩ := pe_ty G h.1
    obtain ⟨h3, h4⟩ := pa_tys G h.2
    exact ⟨PA.imp (pa_cons h1 h3 (star_cons h2)) fun σ H Q q => q, by rw [List.all_cons, h2, h4]; rfl⟩
theorem isi_blt : ("isinstance" : Str) ∈ blts := by decide +kernel
theorem boot_isi : bootBuiltins ("isinstance" : Str) = some (.builtin "isinstance") := by kernel_rfl
theorem pe_is1 {t : Tn} {a : Ex} {e et : Expr} {p pos : Pos} (G : Gd Φ Mu c X) (hg : glB c "isinstance" = true) (h : PEs Φ Mu mp X (.cons a .nil) [e]) (ht : tyE c t et = true) : PE X (.Call (.Name "isinstance" p) [e, et] [] pos) (tM (kw X) (den Φ Mu mp (.op (.isa [t]) (.cons a .nil)))) := by
  obtain ⟨h3, h4⟩ := pe_ty G ht
  cases h with
  | cons hn h1 _ h =>
    rw [den_op rfl]
    refine PE.imp (pe_callB call_isi (G.toGd0.gl hg) (G.blt _ isi_blt) boot_isi (pa_cons h1 (pa_cons h3 pa_nil (star_cons h4)) (star_cons hn)) (by decide) (by decide) (star_cons hn) (star_plain (by rw [List.all_cons, h4]; rfl))) fun σ H Q q => ?_
    refine tM_mono (args1 (tM_op q)) fun x H1 ⟨ds, own, d, ra, e, k⟩ => ?_
    obtain ⟨d1, rfl, g⟩ := ra1 ra
    cases e
    exact ⟨x, .ty (tnN t), _, _, _, rfl, .ty _, tyx g, kit_isT d1 t, by simpa using k (.bl (isT d1 t)) H1 (fun _ _ z => z) (new_sh (by simpa using (.bl (isT d1 t))))⟩
theorem pe_is2 {ts : List Tn} {a : Ex} {e : Expr} {es : List Expr} {n : Nat} {p p2 pos : Pos} (G : Gd Φ Mu c X) (hg : glB c "isinstance" = true) (h : PEs Φ Mu mp X (.cons a .nil) [e]) (ht : tysE c ts es = true) (hz : ts.length ≤ 100) : PE X (.Call (.Name "isinstance" p) [e, .Tuple es n p2] [] pos) (tM (kw X) (den Φ Mu mp (.op (.isa ts) (.cons a .nil)))) := by
  obtain ⟨h3, h4⟩ := pa_tys G ht
  cases h with
  | cons hn h1 _ h =>
    rw [den_op rfl]
    refine PE.imp (pe_callB call_isiT (G.toGd0.gl hg) (G.blt _ isi_blt) boot_isi (pa_cons h1 (pa_cons (pe_tup h3) pa_nil) (star_cons hn)) (by decide) (by decide) (star_cons hn) (star_plain rfl)) fun σ H Q q => ?_
    refine tM_mono (args1 (tM_op q)) fun x H1 ⟨ds, own, d, ra, e, k⟩ => ?_
    obtain ⟨d1, rfl, g⟩ := ra1 ra
    cases e
    have hs := sizeLine_eq
    refine ⟨by rw [List.length_map]; omega, fun q hq => ?_⟩
    have g' : Readable (kw X) (upd H1 q (.tup (ts.map fun t => V.ty (tnN t)))) x d1 := by
      rcases g with g | ⟨p, l, e1, e2, xs, g1, g2⟩
      · exact .inl (g.ext (Ext.upd hq))
      · exact .inr ⟨p, l, e1, e2, xs, kept_upd hq _ _ g1, g2.ext (Ext.upd hq)⟩
    refine ⟨x, q, _, _, ts.map fun t => Value.type (tnN t), _, rfl, upd_same, ?_, tyx g', kit_isTs d1 ts, k (.bl (ts.any (isT d1))) _ (kept_upd hq) (new_sh (.bl _))⟩
    have : ∀ ts : List Tn, Paired ClsV (ts.map fun t => V.ty (tnN t)) (ts.map fun t => Value.type (tnN t)) := fun ts => by
      induction ts with
      | nil => exact .nil
      | cons t ts ih => exact .cons (.ty _) ih
    exact this ts
end
end MP

/-! MP: subscripts, ranges, calls, methods. -/
namespace MP
open PySem PySem.Spec PyProof.Rows L2

section
variable {Φ : Ph} {Mu : Nat → List Bool} {mp : List Nat} {c : Ck} {X : Cx}
def notSl : Expr → Bool
  | .Slice _ _ _ _ => false
  | _ => true
theorem plainIx {b : Expr} (h : notSl b = true) : PlainIx b := by
  cases b <;> first | (intro o i; rfl) | cases h
theorem pe_idx {a b : Ex} {l r : Expr} {pos : Pos} (hn : notSl r = true) (h : PEs Φ Mu mp X (.cons a (.cons b .nil)) [l, r]) : PE X (.Subscript l r pos) (tM (kw X) (den Φ Mu mp (.op .idx (.cons a (.cons b .nil))))) := by
  cases h with
  | cons _ h1 _ h =>
    cases h with
    | cons _ h2 _ _ =>
      rw [den_op rfl]
      exact PE.imp (pe_ix ix_any h1 h2 (plainIx hn)) fun σ H Q q => args2 (tM_op q)
/-! ### slices -/
def denP (Φ : Ph) (Mu : Nat → List Bool) (mp : List Nat) (lo : Exs) : Env → Option (Option Int × Env) := fun ρ => match dens Φ Mu mp lo ρ with
  | some (rl, ρ2) => (match partI (valsOf ρ2 rl) with
    | some pl => some (pl, ρ2)
    | none => none)
  | none => none
def tP (K : MKx) (D : Env → Option (Option Int × Env)) : TO := fun σ H Q => ∃ ρ o ρ', EnvRel K σ ρ H ∧ D ρ = some (o, ρ') ∧ ∀ H', Out K σ ρ H ρ' H' → Q o H'
inductive POk (Φ : Ph) (Mu : Nat → List Bool) (mp : List Nat) (X : Cx) : Exs → Option Expr → Prop where
  | none : POk Φ Mu mp X .nil none
  | some {a e} : PE X e (tM (kw X) (den Φ Mu mp a)) → POk Φ Mu mp X (.cons a .nil) (some e)
theorem PO.imp {e : Option Expr} {t t' : TO} (h : PO X e t) (i : ∀ σ H Q, t' σ H Q → t σ H Q) : PO X e t' := ⟨fun pins s σ H Q I q => h.run pins s σ H Q I (i _ _ _ q)⟩
theorem po_of {as : Exs} {e : Option Expr} (h : POk Φ Mu mp X as e) : PO X e (tP (kw X) (denP Φ Mu mp as)) := by
  cases h with
  | none =>
    refine PO.imp po_none fun σ H Q ⟨ρ, o, ρ', R, e, k⟩ => ?_
    unfold denP at e
    rw [dens] at e
    cases e
    exact k H (Out.refl R)
  | some h =>
    rename_i a e
    refine PO.imp (po_some h) fun σ H Q ⟨ρ, o, ρ', R, e, k⟩ => ?_
    unfold denP at e
    rw [dens] at e
    cases h1 : den Φ Mu mp a ρ with
    | none => simp [h1] at e
    | some y =>
      obtain ⟨r, ρ1⟩ := y
      simp only [h1] at e
      rw [dens] at e
      simp only [valsOf, fixB_same] at e
      cases h2 : valOf ρ1 r with
      | none => simp [h2, partI] at e
      | some d =>
        simp only [h2] at e
        cases d <;> try (cases e; done)
        cases e
        exact ⟨ρ, r, ρ', R, h1, fun x H' o s => ⟨_, (s.readable o.env h2).int, k H' o⟩⟩
theorem den_slice {a : Ex} {lo hi : Exs} {st : Option Int} {ρ : Env} {r : Res} {ρ' : Env} (e : den Φ Mu mp (.slice a lo hi st) ρ = some (r, ρ')) : ∃ ra ρ1 pl ρ2 ph d o, den Φ Mu mp a ρ = some (ra, ρ1) ∧ denP Φ Mu mp lo ρ1 = some (pl, ρ2) ∧ denP Φ Mu mp hi ρ2 = some (ph, ρ') ∧ valOf ρ' ra = some d ∧ sliceD pl ph st d = some o ∧ r = mkR o := by
  rw [den] at e
  split at e
  · rename_i ra ρ1 h1
    split at e
    · rename_i rl ρ2 h2
      split at e
      · rename_i pl h3
        split at e
        · rename_i rh ρ3 h4
          split at e
          · rename_i ph d h5 h6
            split at e
            · rename_i o h7
              cases e
              refine ⟨ra, ρ1, pl, ρ2, ph, d, o, h1, ?_, ?_, h6, h7, rfl⟩
              · unfold denP
                simp only [h2, h3]
              · unfold denP
                simp only [h4, h5]
            · cases e
          · cases e
        · cases e
      · cases e
    · cases e
  · cases e
theorem pe_sl {a : Ex} {lo hi : Exs} {l : Expr} {el eh : Option Expr} {p2 pos : Pos} (h : PE X l (tM (kw X) (den Φ Mu mp a))) (hl : POk Φ Mu mp X lo el) (hh : POk Φ Mu mp X hi eh) : PE X (.Subscript l (.Slice el eh none p2) pos) (tM (kw X) (den Φ Mu mp (.slice a lo hi none))) := by
  refine PE.imp (pe_slice sl_any h (po_of hl) (po_of hh)) fun σ H Q ⟨ρ, r, ρ', R, e, k⟩ => ?_
  obtain ⟨ra, ρ1, pl, ρ2, ph, d, ⟨own, o⟩, h1, h2, h3, h4, h5, rfl⟩ := den_slice e
  refine ⟨ρ, ra, ρ1, R, h1, fun x H1 o1 s1 => ⟨ρ1, pl, ρ2, o1.env, h2, fun H2 o2 => ⟨ρ2, ph, ρ', o2.env, h3, fun H3 o3 => ?_⟩⟩⟩
  have s3 : ResRel (kw X) σ H H3 ra x := (s1.stay R o1 o2).stay R (Stp.trans o1 o2) o3
  have o13 := Stp.trans (Stp.trans o1 o2) o3
  refine ⟨d, own, o, s3.readable o13.env h4, h5, fun z H4 kp nr => ?_⟩
  exact k z H4 (Stp.trans o13 (Out.more o13.env kp)) (ResRel.early R o13 nr.res)
/-! ### list(range(..)), tuple(range(..)) -/
theorem rgV_rep {K : MKx} {H : Hp} (a b : Int) : RepAll K H (rgV a b) (rngL a b) := by
  unfold rgV rngL
  induction List.range (b - a).toNat with
  | nil => exact .nil
  | cons x xs ih => exact .cons (.int _) ih
theorem rng_ok {a b : Int} (h : rngOk a b = true) : RgOk a b := by
  unfold rngOk szOk at h
  simp only [Bool.and_eq_true, decide_eq_true_eq] at h
  have := sizeLine_eq
  exact ⟨h.1.1.1.1, h.1.1.1.2, h.1.1.2, h.1.2, by omega⟩
theorem rng_cases {ds xs : List PyData} (h : rng ds = some xs) : (∃ b, ds = [.int b] ∧ rngOk 0 b = true ∧ xs = rngL 0 b) ∨ ∃ a b, ds = [.int a, .int b] ∧ rngOk a b = true ∧ xs = rngL a b := by
  unfold rng at h
  split at h
  · split at h
    · cases h
      exact .inl ⟨_, rfl, by assumption, rfl⟩
    · cases h
  · split at h
    · cases h
      exact .inr ⟨_, _, rfl, by assumption, rfl⟩
    · cases h
  · cases h
theorem pe_rg1 {a : Ex} {e : Expr} {p p2 pos pos2 : Pos} (G : Gd Φ Mu c X) (hg : glB c "list" = true) (hg2 : glB c "range" = true) (h : PEs Φ Mu mp X (.cons a .nil) [e]) :
    PE X (.Call (.Name "list" p) [.Call (.Name "range" p2) [e] [] pos2] [] pos) (tM (kw X) (den Φ Mu mp (.op .lrng (.cons a .nil)))) := by
  cases h with
  | cons hn h1 _ h =>
    rw [den_op rfl]
    refine PE.imp (pe_listRg G.calm (G.toGd0.gl hg) (G.blt _ (by decide +kernel)) (prg_1 (G.toGd0.gl hg2) (G.blt _ (by decide +kernel)) h1 (star_cons hn)) (star_cons rfl)) fun σ H Q q => ?_
    refine tM_mono (args1 (tM_op q)) fun x H1 ⟨ds, own, d, ra, e, k⟩ => ?_
    obtain ⟨d1, rfl, g⟩ := ra1 ra
    obtain ⟨xs, hx, e2⟩ := Option.map_eq_some_iff.mp (show (rng [d1]).map (fun xs => (true, PyData.list xs)) = some (own, d) from e)
    cases e2
    rcases rng_cases hx with ⟨b, e3, ok, rfl⟩ | ⟨a, b, e3, _⟩
    · cases e3
      exact ⟨b, g.int, rng_ok ok, fun q hq => k _ _ (kept_upd hq) (new_lst hq (rgV_rep 0 b))⟩
    · cases e3
theorem pe_rg2 {a b : Ex} {e e2 : Expr} {p p2 pos pos2 : Pos} (G : Gd Φ Mu c X) (hg : glB c "list" = true) (hg2 : glB c "range" = true) (h : PEs Φ Mu mp X (.cons a (.cons b .nil)) [e, e2]) :
    PE X (.Call (.Name "list" p) [.Call (.Name "range" p2) [e, e2] [] pos2] [] pos) (tM (kw X) (den Φ Mu mp (.op .lrng (.cons a (.cons b .nil))))) := by
  cases h with
  | cons hn h1 _ h =>
    cases h with
    | cons hn2 h2 _ h =>
      rw [den_op rfl]
      refine PE.imp (pe_listRg G.calm (G.toGd0.gl hg) (G.blt _ (by decide +kernel)) (prg_2 (G.toGd0.gl hg2) (G.blt _ (by decide +kernel)) h1 h2 (star_cons hn) (star_cons hn2) (star_plain (by rw [List.all_cons, hn2]; rfl))) (star_cons rfl)) fun σ H Q q => ?_
      refine tM_mono (args2 (tM_op q)) fun x H1 q1 => tM_mono q1 fun y H2 ⟨ds, own, d, ra, e, k⟩ => ?_
      obtain ⟨d1, d2, rfl, g, g2⟩ := ra2 ra
      obtain ⟨xs, hx, e2⟩ := Option.map_eq_some_iff.mp (show (rng [d1, d2]).map (fun xs => (true, PyData.list xs)) = some (own, d) from e)
      cases e2
      rcases rng_cases hx with ⟨b, e3, _⟩ | ⟨a, b, e3, ok, rfl⟩
      · cases e3
      · cases e3
        exact ⟨a, b, g.int, g2.int, rng_ok ok, fun q hq => k _ _ (kept_upd hq) (new_lst hq (rgV_rep a b))⟩
theorem pe_tg1 {a : Ex} {e : Expr} {p p2 pos pos2 : Pos} (G : Gd Φ Mu c X) (hg : glB c "tuple" = true) (hg2 : glB c "range" = true) (h : PEs Φ Mu mp X (.cons a .nil) [e]) :
    PE X (.Call (.Name "tuple" p) [.Call (.Name "range" p2) [e] [] pos2] [] pos) (tM (kw X) (den Φ Mu mp (.op .trng (.cons a .nil)))) := by
  cases h with
  | cons hn h1 _ h =>
    rw [den_op rfl]
    refine PE.imp (pe_tupRg G.calm (G.toGd0.gl hg) (G.blt _ (by decide +kernel)) (prg_1 (G.toGd0.gl hg2) (G.blt _ (by decide +kernel)) h1 (star_cons hn)) (star_cons rfl)) fun σ H Q q => ?_
    refine tM_mono (args1 (tM_op q)) fun x H1 ⟨ds, own, d, ra, e, k⟩ => ?_
    obtain ⟨d1, rfl, g⟩ := ra1 ra
    obtain ⟨xs, hx, e2⟩ := Option.map_eq_some_iff.mp (show (rng [d1]).map (fun xs => (false, PyData.tuple xs)) = some (own, d) from e)
    cases e2
    rcases rng_cases hx with ⟨b, e3, ok, rfl⟩ | ⟨a, b, e3, _⟩
    · cases e3
      exact ⟨b, g.int, rng_ok ok, fun q hq => k _ _ (kept_upd hq) (new_tup hq (rgV_rep 0 b))⟩
    · cases e3
theorem pe_tg2 {a b : Ex} {e e2 : Expr} {p p2 pos pos2 : Pos} (G : Gd Φ Mu c X) (hg : glB c "tuple" = true) (hg2 : glB c "range" = true) (h : PEs Φ Mu mp X (.cons a (.cons b .nil)) [e, e2]) :
    PE X (.Call (.Name "tuple" p) [.Call (.Name "range" p2) [e, e2] [] pos2] [] pos) (tM (kw X) (den Φ Mu mp (.op .trng (.cons a (.cons b .nil))))) := by
  cases h with
  | cons hn h1 _ h =>
    cases h with
    | cons hn2 h2 _ h =>
      rw [den_op rfl]
      refine PE.imp (pe_tupRg G.calm (G.toGd0.gl hg) (G.blt _ (by decide +kernel)) (prg_2 (G.toGd0.gl hg2) (G.blt _ (by decide +kernel)) h1 h2 (star_cons hn) (star_cons hn2) (star_plain (by rw [List.all_cons, hn2]; rfl))) (star_cons rfl)) fun σ H Q q => ?_
      refine tM_mono (args2 (tM_op q)) fun x H1 q1 => tM_mono q1 fun y H2 ⟨ds, own, d, ra, e, k⟩ => ?_
      obtain ⟨d1, d2, rfl, g, g2⟩ := ra2 ra
      obtain ⟨xs, hx, e2⟩ := Option.map_eq_some_iff.mp (show (rng [d1, d2]).map (fun xs => (false, PyData.tuple xs)) = some (own, d) from e)
      cases e2
      rcases rng_cases hx with ⟨b, e3, _⟩ | ⟨a, b, e3, ok, rfl⟩
      · cases e3
      · cases e3
        exact ⟨a, b, g.int, g2.int, rng_ok ok, fun q hq => k _ _ (kept_upd hq) (new_tup hq (rgV_rep a b))⟩
/-! ### calls of defs -/
theorem den_call {f : Nat} {es : Exs} {ρ : Env} {r : Res} {ρ' : Env} (e : den Φ Mu mp (.call f es) ρ = some (r, ρ')) : ∃ rs ρ1 vs o fin, dens Φ Mu mp es ρ = some (rs, ρ1) ∧ argOk (Mu f) rs = true ∧ (mutPl (Mu f) rs).Nodup ∧ (∀ i ∈ mutPl (Mu f) rs, i ∉ bors (fz (Mu f) rs)) ∧
    argVals ρ1 (Mu f) rs = some vs ∧ Φ f vs = some (o, fin) ∧ (((Mu f).all (!·) && (!o.1 && isAt o.2)) = true ∧ ρ' = ρ1 ∨ putAll (mutPl (Mu f) rs) fin (frzRs ρ1 (fz (Mu f) rs)) = some ρ') ∧ r = mkR o := by
  rw [den] at e
  split at e
  · rename_i rs ρ1 h1
    split at e
    · rename_i hc
      simp only [Bool.and_eq_true, decide_eq_true_eq, List.all_eq_true, Bool.not_eq_true', List.contains_eq_mem, decide_eq_false_iff_not] at hc
      split at e
      · rename_i vs h2
        split at e
        · rename_i o fin h3
          split at e
          · rename_i hat
            cases e
            exact ⟨rs, _, vs, o, fin, h1, hc.1, hc.2.1, hc.2.2, h2, h3, .inl ⟨hat, rfl⟩, rfl⟩
          · split at e
            · rename_i ρ2 h4
              cases e
              exact ⟨rs, ρ1, vs, o, fin, h1, hc.1, hc.2.1, hc.2.2, h2, h3, .inr h4, rfl⟩
            · cases e
        · cases e
      · cases e
    · cases e
  · cases e
/-- the callee runs -/
theorem run_m {pins : List (Addr × Obj)} {σ : L2.St} {H : Hp} {s : Shared} {Q : VK} {us : List Value} {vs : List V} {a : Addr} {φ : List (Bool × PyData) → Option ((Bool × PyData) × List PyData)} {mu : List Bool} (F : FnM X.prog X.w (kw X) X.mg X.base X.A a φ mu) (I : Inv X pins σ H s) (r : Vals vs us) (h : spM (kw X) φ mu vs H Q) :
    wpAny (model X.prog X.w) X.A (call (.ref a) us) (EP X pins σ Q) X.xe s := by
  refine wpAny_call (codeAny_mono (F X.stack s H us vs Q I.env0 r h) fun r s' hq => ?_)
  cases r with
  | error e => exact hq.elim
  | ok fl =>
    cases fl with
    | ret u => exact I.after hq
    | next => exact False.elim hq
    | brk => exact False.elim hq
    | cont => exact False.elim hq
/-- lists are locked, for good or for a while -/
inductive LkV (S : Hp → VK → Prop) : VK → Hp → Prop where
  | done {Q H} : S H Q → LkV S Q H
  | lock {Q H} (p : Addr) (xs : List V) : H p = some (.lst xs) → (∀ o, p ≠ sysModules → LkV S Q (upd H p (.frz o (.lst xs)))) → LkV S Q H
  | lockU {Q H} (p : Addr) (xs : List V) : H p = some (.lst xs) → (∀ o, p ≠ sysModules → LkV S (fun x H' => H' p = some (.frz o (.lst xs)) ∧ Q x (upd H' p (.lst xs))) (upd H p (.frz o (.lst xs)))) → LkV S Q H
theorem Lk.lkv {S : Hp → VK → Prop} {Q : VK} {H : Hp} (h : Lk (fun H2 => S H2 Q) H) : LkV S Q H := by
  induction h with
  | done q => exact .done q
  | lock p xs e k ih => exact .lock p xs e ih
theorem lkv_run (S : Sys X) {pins : List (Addr × Obj)} {σ : L2.St} {H : Hp} {s : Shared} {Q : VK} {us : List Value} {vs : List V} {a : Addr} {φ : List (Bool × PyData) → Option ((Bool × PyData) × List PyData)} {mu : List Bool} (F : FnM X.prog X.w (kw X) X.mg X.base X.A a φ mu) (r : Vals vs us)
    (h : LkV (fun H Q => spM (kw X) φ mu vs H Q) Q H) (I : Inv X pins σ H s) : wpAny (model X.prog X.w) X.A (call (.ref a) us) (EP X pins σ Q) X.xe s := by
  induction h with
  | done q => exact run_m F I r q
  | lock p xs e k ih =>
    obtain ⟨od, I'⟩ := I.lock e trivial
    exact ih od (ns_of S I _ _ e) I'
  | lockU p xs e k ih =>
    obtain ⟨od, I'⟩ := I.lock e trivial
    exact thn (ih od (ns_of S I _ _ e) I') fun u s1 ⟨x, H1, I2, r, e2, q⟩ => ⟨x, _, I2.unlock e2 (I.nofrz e trivial), r, q⟩
theorem Readable.locked {K : MKx} {H : Hp} {p : Addr} {ys : List V} {o : Obj} (h : H p = some (.lst ys)) (hs : p ≠ sysModules) {x : V} {d : PyData} (r : Readable K H x d) : Readable K (upd H p (.frz o (.lst ys))) x d := by
  rcases r with r | ⟨q, ds, rfl, rfl, xs, hq, ra⟩
  · exact .inl (r.ext (Ext.frz h))
  · by_cases e : q = p
    · subst e
      rw [h] at hq
      cases hq
      exact .inl (.lst (upd_same ..) hs (ra.ext (Ext.frz h)))
    · exact .inr ⟨q, ds, rfl, rfl, xs, by rw [upd_ne e]; exact hq, ra.ext (Ext.frz h)⟩
theorem ReadAll.locked {K : MKx} {H : Hp} {p : Addr} {ys : List V} {o : Obj} (h : H p = some (.lst ys)) (hs : p ≠ sysModules) : ∀ {xs : List V} {ds : List PyData}, ReadAll K H xs ds → ReadAll K (upd H p (.frz o (.lst ys))) xs ds
  | _, _, .nil => .nil
  | _, _, .cons a b => .cons (a.locked h hs) (ReadAll.locked h hs b)
theorem frzU {K : MKx} {S : Hp → VK → Prop} : ∀ {xs : List V} {ds : List PyData} {pre : List V} {dpre : List PyData} {H : Hp} {Q : VK}, RepAll K H pre dpre → ReadAll K H xs ds →
    (∀ H2 Q2, RepAll K H2 (pre ++ xs) (dpre ++ ds) → (∀ x H', (∀ a o, H2 a = some o → H' a = some o) → (∀ H'', (∀ a o, H a = some o → H'' a = some o) → Q x H'') → Q2 x H') → S H2 Q2) → LkV S Q H
  | _, _, pre, dpre, H, Q, r, .nil, k => .done (k H Q (by simpa using r) fun x H' hh g => g H' hh)
  | _, _, pre, dpre, H, Q, r, .cons (x := x) (d := d) (xs := xs) (ds := ds) a b, k => by
    rcases a with a | ⟨p, l, rfl, rfl, ys, hp, ra⟩
    · exact frzU (r.append (.cons a .nil)) b fun H2 Q2 r2 c => k H2 Q2 (by simpa using r2) c
    · refine .lockU p ys hp fun o hs => ?_
      have ex := Ext.frz (o := .frz o (.lst ys)) hp
      refine frzU (pre := pre ++ [.ref p]) (dpre := dpre ++ [.list l]) ((r.ext ex).append (.cons (.lst (upd_same ..) hs (ra.ext ex)) .nil)) (b.locked hp hs) fun H2 Q2 r2 c => k H2 Q2 (by simpa using r2) fun x H' hh g => c x H' hh fun H'' h'' => ⟨h'' p _ (upd_same ..), g _ fun a ob ha => ?_⟩
      by_cases e : a = p
      · subst e
        rw [hp] at ha
        cases ha
        exact upd_same ..
      · rw [upd_ne e]
        exact h'' a ob (by rw [upd_ne e]; exact ha)
theorem argVals_vals : ∀ {ms : List Bool} {rs : List Res} {ρ : Env} {vs : List (Bool × PyData)}, argVals ρ ms rs = some vs → valsOf ρ rs = some (vs.map (·.2)) ∧ vs.map (·.1) = ms
  | [], [], ρ, vs, e => by
    cases e
    exact ⟨rfl, rfl⟩
  | [], _ :: _, _, _, e => by cases e
  | _ :: _, [], _, _, e => by cases e
  | m :: ms, r :: rs, ρ, vs, e => by
    unfold argVals at e
    split at e
    · rename_i d ds h1 h2
      cases e
      obtain ⟨g1, g2⟩ := argVals_vals h2
      refine ⟨?_, by rw [List.map_cons, g2]⟩
      unfold valsOf
      rw [h1, g1]
      rfl
    · cases e
theorem argR_all {K : MKx} {H : Hp} : ∀ {mu : List Bool} {xs : List V} {ds : List PyData}, mu.all (!·) = true → mu.length = xs.length → RepAll K H xs ds → ArgR K H mu xs ds
  | [], [], _, _, _, .nil => .nil
  | true :: _, _, _, h, _, _ => by simp at h
  | false :: mu, x :: xs, _, h, hl, .cons a b => .sh a (argR_all (by simpa using h) (by simpa using hl) b)
theorem mutA_none : ∀ {mu : List Bool} {xs : List V}, mu.all (!·) = true → mutA mu xs = []
  | [], [], _ => rfl
  | [], _ :: _, _ => rfl
  | true :: _, _, h => by simp at h
  | false :: mu, [], _ => rfl
  | false :: mu, x :: xs, h => by
    have := mutA_none (mu := mu) (xs := xs) (by simpa using h)
    simpa [mutA] using this
theorem Rep.atom {K : MKx} {H H' : Hp} {x : V} {d : PyData} (h : isAt d = true) (r : Rep K H x d) : Rep K H' x d := by
  cases r with
  | non => exact .non
  | bl b => exact .bl b
  | int i => exact .int i
  | str x => exact .str x
  | tup _ _ => cases h
  | lst _ _ _ => cases h
  | dic _ => cases h
theorem sp_of {f : Nat} {es : Exs} {σ : L2.St} {H : Hp} {Q : VK} (h : tM (kw X) (den Φ Mu mp (.call f es)) σ H Q) : tMs (kw X) (dens Φ Mu mp es) σ H fun xs H1 => LkV (fun H2 Q2 => spM (kw X) (Φ f) (Mu f) xs H2 Q2) Q H1 := by
  obtain ⟨ρ, r, ρ', R, e, k⟩ := h
  obtain ⟨rs, ρ1, vs, o, fin, h1, ok, nd, dj, h2, h3, h4, rfl⟩ := den_call e
  refine ⟨ρ, rs, ρ1, R, h1, fun xs H1 o1 r1 ndo => ?_⟩
  rcases h4 with ⟨hat, rfl⟩ | h4
  · simp only [Bool.and_eq_true, Bool.not_eq_true'] at hat
    obtain ⟨hall, hb, hat⟩ := hat
    obtain ⟨g1, g2⟩ := argVals_vals h2
    have rd := r1.readAll o1.env g1
    have hlen : (Mu f).length = xs.length := by
      rw [← g2, List.length_map, rd.length, List.length_map]
    refine frzU .nil rd fun H2 Q2 r2 c => ?_
    refine ⟨vs.map (·.2), o, fin, hlen, ?_, argR_all hall hlen (by simpa using r2), by rw [mutA_none hall]; exact List.nodup_nil, fun x H' P => ?_⟩
    · rw [← g2, zip_fst_snd]
      exact h3
    · refine c x H' (fun a ob ha => P.keep a ob ha (by rw [mutA_none hall]; simp)) fun H'' hh => ?_
      have res := P.res
      unfold NewR at res
      rw [hb] at res
      have res : Rep (kw X) H' x o.2 := by simpa using res
      have eo : mkR o = .sh o.2 := by
        obtain ⟨o1, o2⟩ := o
        cases hb
        rfl
      refine k x H'' (o1.trans (Out.more o1.env hh)) ?_
      rw [eo]
      exact res.atom hat
  refine Lk.lkv ?_
  obtain ⟨g1, g2⟩ := valsOf_fz h2
  refine frz_run R o1 (fz_res r1) ((fz_owns r1.length).nodup ndo) (fun p hp => not_owned R o1 r1 p ((fz_owns r1.length).subset hp)) (valsIs_of g1) fun H2 ex o2 ra => ?_
  have hout : ∀ i ∈ mutPl (Mu f) rs, (frzRs ρ1 (fz (Mu f) rs))[i]? = ρ1[i]? := fun i hi => frzRs_out (dj i hi)
  obtain ⟨ar, hl, _⟩ := arg_rel o2.env ok r1 h2 ra hout
  have ho : ∀ i ∈ mutPl (Mu f) rs, ∃ d, (frzRs ρ1 (fz (Mu f) rs))[i]? = some (some (true, d)) := fun i hi => by
    rw [hout i hi]
    exact argVals_own ok h2 i hi
  refine ⟨vs.map (·.2), o, fin, hl, ?_, ar, mutA_nodup o2.env ok r1 nd ho, fun x H' P => k x H' (call_out R o2 ok r1 nd ho P h4) ?_⟩
  · rw [← g2, zip_fst_snd]
    exact h3
  · exact ResRel.early R o2 P.res.res
theorem pe_fn {f : Nat} {x : Str} {as : Exs} {es : List Expr} {p pos : Pos} (G : Gd Φ Mu c X) (hf : c.fs[f]? = some x) (hg : glB c x = true) (hdb : (x == ("__debug__" : Str)) = false) (h : PEs Φ Mu mp X as es) : PE X (.Call (.Name x p) es [] pos) (tM (kw X) (den Φ Mu mp (.call f as))) := by
  obtain ⟨a, hm, hk, F⟩ := G.fn' f x hf
  have ha := h.pa
  have hns := h.ns
  cases es with
  | nil =>
    refine ⟨fun pins s σ H Q I q => ?_⟩
    refine wpAny_Call_Name_kw (ld_glob I (G.toGd0.gl hg) hm ?_ hdb)
    obtain ⟨ρ, rs, ρ', R, e, k⟩ := sp_of q
    cases h
    rw [dens] at e
    cases e
    exact PySem.W.callWith_K0 I.kIn hk (lkv_run G.sys (us := []) F .nil (k [] H (Out.refl R) .nil (by simp [owns])) I)
  | cons e es =>
    rw [List.all_cons, Bool.and_eq_true] at hns
    refine ⟨fun pins s σ H Q I q => ?_⟩
    refine wpAny_Call_Name_kw (ld_glob I (G.toGd0.gl hg) hm ?_ hdb)
    exact PySem.W.callWith_K (h₀ := X.base) I.ok.mod.kin hk (thn (ha.run pos pins s σ H _ I (sp_of q)) fun us s1 ⟨vs, H1, I1, r, q1⟩ => ⟨I1.kIn, lkv_run G.sys F r q1 I1⟩) (star_cons hns.1) (star_plain hns.2)
/-! ### if, a chain of comparisons -/
theorem den_ite {t a b : Ex} (ρ : Env) : den Φ Mu mp (.ite t a b) ρ = match bT (den Φ Mu mp t) ρ with
      | some (true, ρ1) => den Φ Mu mp a ρ1
      | some (false, ρ1) => den Φ Mu mp b ρ1
      | none => none := by
  rw [den]
  unfold bT
  cases den Φ Mu mp t ρ with
  | none => rfl
  | some y =>
    obtain ⟨x, ρ1⟩ := y
    simp only
    cases valOf ρ1 x with
    | none => rfl
    | some d =>
      cases d with
      | bool b => cases b <;> rfl
      | _ => rfl
theorem bT_ite {t a b : Ex} (ρ : Env) : bT (den Φ Mu mp (.ite t a b)) ρ = match bT (den Φ Mu mp t) ρ with
      | some (true, ρ1) => bT (den Φ Mu mp a) ρ1
      | some (false, ρ1) => bT (den Φ Mu mp b) ρ1
      | none => none := by
  have e : bT (den Φ Mu mp (.ite t a b)) ρ = match den Φ Mu mp (.ite t a b) ρ with
    | some (r, ρ1) => (match valOf ρ1 r with
      | some (.bool b) => some (b, ρ1)
      | _ => none)
    | none => none := rfl
  rw [e, den_ite]
  cases bT (den Φ Mu mp t) ρ with
  | none => rfl
  | some y =>
    obtain ⟨k, ρ1⟩ := y
    cases k <;> rfl
theorem pe_ife {t a b : Ex} {et ea eb : Expr} {pos : Pos} (ht : PT X et (tT (kw X) (bT (den Φ Mu mp t)))) (ha : PE X ea (tM (kw X) (den Φ Mu mp a))) (hb : PE X eb (tM (kw X) (den Φ Mu mp b))) (ta : PT X ea (tT (kw X) (bT (den Φ Mu mp a)))) (tb : PT X eb (tT (kw X) (bT (den Φ Mu mp b)))) :
    PE X (.IfExp et ea eb pos) (tM (kw X) (den Φ Mu mp (.ite t a b))) ∧ PT X (.IfExp et ea eb pos) (tT (kw X) (bT (den Φ Mu mp (.ite t a b)))) := by
  refine ⟨PE.imp (pe_ifExp ht ha hb) fun σ H Q q => tM_bind den_ite q, ⟨fun pins s σ H Q I q => ?_⟩⟩
  have h2 := tT_bind (D1 := bT (den Φ Mu mp t)) (D2 := bT (den Φ Mu mp a)) (D3 := bT (den Φ Mu mp b)) bT_ite q
  refine isTrue_IfExp (thn (ht.run pins s σ H _ I h2) fun k s1 ⟨H1, I1, q1⟩ => ?_)
  cases k with
  | true => exact ta.run pins s1 σ H1 Q I1 q1
  | false => exact tb.run pins s1 σ H1 Q I1 q1
/-! ### methods -/
/-- an owned slot's list becomes another -/
theorem stp_mut {K : MKx} {σ : L2.St} {ρ ρ' : Env} {H H' : Hp} {i : Nat} {d : PyData} {p : Addr} {ws : List V} {es : List PyData} (a : Out K σ ρ H ρ' H') (hi : ρ'[i]? = some (some (true, d))) (hs : σ[i]? = some (some (V.ref p))) (hp : ∃ vs, H' p = some (.lst vs)) (ra : RepAll K H' ws es) :
    Out K σ ρ H (ρ'.set i (some (true, .list es))) (upd H' p (.lst ws)) := by
  obtain ⟨vs, hp⟩ := hp
  have ex : Ext H' (upd H' p (.lst ws)) := Ext.frz hp
  have hil : i < ρ'.length := (List.getElem?_eq_some_iff.mp hi).1
  have ow : Owned σ ρ' p := ⟨i, d, hi, hs⟩
  have up : ∀ {j : Nat} {e : PyData}, (ρ'.set i (some (true, .list es)))[j]? = some (some (true, e)) → (i = j ∧ e = .list es) ∨ (i ≠ j ∧ ρ'[j]? = some (some (true, e))) := fun {j e} q => by
    by_cases z : i = j
    · subst z
      rw [List.getElem?_set_self hil] at q
      cases q
      exact .inl ⟨rfl, rfl⟩
    · rw [List.getElem?_set_ne z] at q
      exact .inr ⟨z, q⟩
  have up' : ∀ {j : Nat} {e : PyData}, (ρ'.set i (some (true, .list es)))[j]? = some (some (true, e)) → ∃ e', ρ'[j]? = some (some (true, e')) := fun {j e} q => by
    rcases up q with ⟨rfl, _⟩ | ⟨_, h⟩
    · exact ⟨d, hi⟩
    · exact ⟨e, h⟩
  refine ⟨⟨by rw [List.length_set]; exact a.env.len, fun j e q => ?_, fun j e q => ?_, fun j k e f q h1 h2 h3 h4 => ?_⟩, fun b o h n => ?_, fun b ⟨j, e, h1, h2⟩ => ?_, fun b o h => ?_⟩
  · by_cases z : i = j
    · subst z
      rw [List.getElem?_set_self hil] at q
      cases q
    · rw [List.getElem?_set_ne z] at q
      obtain ⟨x, h1, h2⟩ := a.env.sh j e q
      exact ⟨x, h1, h2.ext ex⟩
  · rcases up q with ⟨rfl, rfl⟩ | ⟨z, q⟩
    · exact ⟨p, es, hs, rfl, ws, upd_same, ra.ext ex⟩
    · obtain ⟨p', l, h1, h2, xs, h3, h4⟩ := a.env.own j e q
      have hq : p' ≠ p := fun w => z (a.env.inj i j d e p hi q hs (by rw [← w]; exact h1))
      exact ⟨p', l, h1, h2, xs, by rw [upd_ne hq]; exact h3, h4.ext ex⟩
  · obtain ⟨e', g1⟩ := up' h1
    obtain ⟨f', g2⟩ := up' h2
    exact a.env.inj j k e' f' q g1 g2 h3 h4
  · rw [upd_ne fun z => n (a.less b (by rw [z]; exact ow))]
    exact a.keep b o h n
  · obtain ⟨e', g1⟩ := up' h1
    exact a.less b ⟨j, e', g1, h2⟩
  · by_cases z : b = p
    · exact ⟨_, by rw [z]; exact upd_same⟩
    · rw [upd_ne z]
      exact a.there b o h
theorem den_meth {m : Mt} {i : Nat} {es : Exs} {ρ : Env} {r : Res} {ρ' : Env} (e : den Φ Mu mp (.meth m i es) ρ = some (r, ρ')) : ∃ d0 rs ρ1 ds d r' d', ρ[i]? = some (some (true, d0)) ∧ dens Φ Mu mp es ρ = some (rs, ρ1) ∧ valsOf ρ1 rs = some ds ∧ i ∉ bors rs ∧ ρ1[i]? = some (some (true, d)) ∧ mtS m d ds = some (r', d') ∧ r = .sh r' ∧ ρ' = (frzRs ρ1 rs).set i (some (true, d')) := by
  rw [den] at e
  split at e
  · rename_i d0 h0
    split at e
    · rename_i rs ρ1 h1
      split at e
      · rename_i ds d h2 h3
        split at h3
        · cases h3
        · rename_i hc
          split at e
          · rename_i r' d' h4
            cases e
            exact ⟨d0, rs, ρ1, ds, d, r', d', h0, h1, h2, by simpa using hc, valOf_bor h3, h4, rfl, rfl⟩
          · cases e
      · cases e
    · cases e
  · cases e
/-- a method by values: the list at p, the arguments fixed -/
def mV (K : MKx) (m : Mt) : V → List V → Hp → VK → Prop := fun x xs H Q => ∃ p vs l ds r l', x = .ref p ∧ H p = some (.lst vs) ∧ RepAll K H vs l ∧ RepAll K H xs ds ∧ mtS m (.list l) ds = some (r, .list l') ∧ ∀ y ws, RepAll K H ws l' → Rep K H y r → Q y (upd H p (.lst ws))
theorem meth_of {m : Mt} {i : Nat} {es : Exs} {σ : L2.St} {H : Hp} {Q : VK} (hm : ∀ l ds r d', mtS m (.list l) ds = some (r, d') → ∃ l', d' = .list l') (h : tM (kw X) (den Φ Mu mp (.meth m i es)) σ H Q) : ∃ p, σ[i]? = some (some (V.ref p)) ∧ (∃ vs, H p = some (.lst vs)) ∧ tMs (kw X) (dens Φ Mu mp es) σ H fun xs H1 => Lk (fun H2 => mV (kw X) m (.ref p) xs H2 Q) H1 := by
  obtain ⟨ρ, r, ρ', R, e, k⟩ := h
  obtain ⟨d0, rs, ρ1, ds, d, r', d', h0, h1, h2, h3, h4, h5, rfl, rfl⟩ := den_meth e
  obtain ⟨p, l0, hs, _, vs0, hp0, _⟩ := R.own i d0 h0
  refine ⟨p, hs, ⟨vs0, hp0⟩, ρ, rs, ρ1, R, h1, fun xs H1 o1 r1 nd => ?_⟩
  refine frz_args R o1 r1 nd h2 fun H2 ex o2 ra => ?_
  have hi : (frzRs ρ1 rs)[i]? = some (some (true, d)) := by rw [frzRs_out h3]; exact h4
  obtain ⟨p', l, hs', rfl, vs, hp, rl⟩ := o2.env.own i d hi
  rw [hs] at hs'
  cases hs'
  obtain ⟨l', rfl⟩ := hm _ _ _ _ h5
  exact ⟨p, vs, l, ds, r', l', rfl, hp, rl, ra, h5, fun y ws rw' ry => k y _ (stp_mut o2 hi hs ⟨vs, hp⟩ rw') (ry.ext (Ext.frz hp))⟩
theorem mtS_list {m : Mt} : ∀ l ds r d', mtS m (.list l) ds = some (r, d') → ∃ l', d' = .list l' := fun l ds r d' h => by
  unfold mtS at h
  split at h
  · rename_i e _
    split at h
    · cases h
      exact ⟨_, rfl⟩
    · cases h
  · split at h
    · cases h
      exact ⟨_, rfl⟩
    · cases h
  · split at h
    · cases h
      exact ⟨_, rfl⟩
    · cases h
  · split at h
    · cases h
      exact ⟨_, rfl⟩
    · cases h
  · obtain ⟨k, _, h⟩ := Option.bind_eq_some_iff.mp h
    obtain ⟨x, _, h⟩ := Option.map_eq_some_iff.mp h
    cases h
    exact ⟨_, rfl⟩
  · cases h
    exact ⟨_, rfl⟩
  · cases h
def mtN : Mt → Str
  | .append => "append"
  | .extend => "extend"
  | .insert => "insert"
  | .pop => "pop"
  | .clear => "clear"
end
end MP

/-! MP: methods of lists. -/
namespace MP
open PySem PySem.Spec PyProof.Rows L2
section
variable {Φ : Ph} {Mu : Nat → List Bool} {mp : List Nat} {c : Ck} {X : Cx}
theorem szOk_le {n : Nat} (h : szOk n = true) : n ≤ sizeLine := of_decide_eq_true h
theorem rall1 {K : MKx} {H : Hp} {xs : List V} {d : PyData} (h : RepAll K H xs [d]) : ∃ x, xs = [x] ∧ Rep K H x d := by
  cases h with
  | cons a r =>
    cases r
    exact ⟨_, rfl, a⟩
theorem rall2 {K : MKx} {H : Hp} {xs : List V} {d e : PyData} (h : RepAll K H xs [d, e]) : ∃ x y, xs = [x, y] ∧ Rep K H x d ∧ Rep K H y e := by
  cases h with
  | cons a r =>
    obtain ⟨y, rfl, b⟩ := rall1 r
    exact ⟨_, y, rfl, a, b⟩
theorem rall0 {K : MKx} {H : Hp} {xs : List V} (h : RepAll K H xs []) : xs = [] := by
  cases h
  rfl
theorem mv_append : MtR X "list.append" (mV (kw X) .append) := by
  intro pins s σ H x vs v us Q I rx rv h
  obtain ⟨p, ws, l, ds, r, l', rfl, hp, rl, ra, e, k⟩ := h
  unfold mtS at e
  split at e
  all_goals try (rename_i h1 _; cases h1; done)
  all_goals try (cases e; done)
  rename_i h1 h2
  cases h2
  split at e
  · rename_i hz
    cases e
    obtain ⟨y, rfl, ry⟩ := rall1 ra
    have := szOk_le hz
    exact mt_append pins s σ H _ _ v us Q I rx rv ⟨p, ws, y, rfl, rfl, hp, by rw [rl.length]; omega, k _ _ (rl.append (.cons ry .nil)) .non⟩
  · cases e
theorem getLast_rep {K : MKx} {H : Hp} {ws : List V} {l : List PyData} (r : RepAll K H ws l) (h : l ≠ []) : ∃ y, ws[ws.length - 1]? = some y ∧ Rep K H y (l.getLast h) := by
  have hl : 0 < l.length := List.length_pos_iff.mpr h
  obtain ⟨y, h1, h2⟩ := r.get (i := l.length - 1) (d := l.getLast h) (by rw [List.getLast_eq_getElem, List.getElem?_eq_getElem (by omega)])
  exact ⟨y, by rw [r.length]; exact h1, h2⟩
theorem mv_pop : MtR X "list.pop" (mV (kw X) .pop) := by
  intro pins s σ H x vs v us Q I rx rv h
  obtain ⟨p, ws, l, ds, r, l', rfl, hp, rl, ra, e, k⟩ := h
  unfold mtS at e
  split at e
  all_goals try (rename_i h1 _; cases h1; done)
  all_goals try (cases e; done)
  · rename_i h1 h2
    cases h2
    split at e
    · rename_i hn
      cases e
      obtain rfl := rall0 ra
      obtain ⟨y, h3, h4⟩ := getLast_rep rl hn
      exact mt_pop pins s σ H _ _ v us Q I rx rv ⟨p, ws, y, rfl, rfl, hp, h3, k _ _ rl.dropLast h4⟩
    · cases e
  · rename_i h1 h2
    cases h2
    obtain ⟨j, hj, e⟩ := Option.bind_eq_some_iff.mp e
    obtain ⟨z, hz, e⟩ := Option.map_eq_some_iff.mp e
    cases e
    obtain ⟨y, rfl, ry⟩ := rall1 ra
    cases ry
    obtain ⟨y, h3, h4⟩ := rl.get hz
    obtain ⟨g1, g2, g3, g4⟩ := L2.ixN_seq hj
    obtain ⟨hs, _⟩ := I.lstM hp
    have hl := rl.length
    have hsz := sizeLine_eq
    exact mt_popAt pins s σ H _ _ v us Q I rx rv ⟨p, ws, _, j, y, rfl, rfl, hp, by omega, by omega, by rw [hl]; exact g1, h3, k _ _ (rl.eraseIdx j) h4⟩
theorem mv_insert : MtR X "list.insert" (mV (kw X) .insert) := by
  intro pins s σ H x vs v us Q I rx rv h
  obtain ⟨p, ws, l, ds, r, l', rfl, hp, rl, ra, e, k⟩ := h
  unfold mtS at e
  split at e
  all_goals try (rename_i h1 _; cases h1; done)
  all_goals try (cases e; done)
  rename_i h1 h2
  cases h2
  split at e
  · rename_i hz
    cases e
    simp only [Bool.and_eq_true, decide_eq_true_eq] at hz
    obtain ⟨x, y, rfl, rx', ry⟩ := rall2 ra
    cases rx'
    have := szOk_le hz.1.1
    exact mt_insert pins s σ H _ _ v us Q I rx rv ⟨p, ws, _, y, rfl, rfl, hp, by rw [rl.length]; omega, hz.1.2, by omega, k _ _ (by rw [List.append_assoc]; exact (rl.take _).append (.cons ry (rl.drop _))) .non⟩
  · cases e
theorem mv_clear : MtR X "list.clear" (mV (kw X) .clear) := by
  intro pins s σ H x vs v us Q I rx rv h
  obtain ⟨p, ws, l, ds, r, l', rfl, hp, rl, ra, e, k⟩ := h
  unfold mtS at e
  split at e
  all_goals try (rename_i h1 _; cases h1; done)
  all_goals try (cases e; done)
  cases e
  obtain rfl := rall0 ra
  exact mt_clear pins s σ H _ _ v us Q I rx rv ⟨p, ws, rfl, rfl, hp, k _ _ .nil .non⟩
theorem mv_extend : MtR X "list.extend" (mV (kw X) .extend) := by
  intro pins s σ H x vs v us Q I rx rv h
  obtain ⟨p, ws, l, ds, r, l', rfl, hp, rl, ra, e, k⟩ := h
  unfold mtS at e
  split at e
  all_goals try (rename_i h1 _; cases h1; done)
  all_goals try (cases e; done)
  rename_i h1 h2
  cases h2
  split at e
  · rename_i hz
    cases e
    have hz' := szOk_le hz
    obtain ⟨y, rfl, ry⟩ := rall1 ra
    cases ry with
    | lst hb hns rb =>
      rename_i b o zs
      cases rx
      obtain ⟨u, rfl, ru⟩ := rv.one
      cases ru
      obtain ⟨hs, its, n, rr, hl, e1⟩ := I.lstM hp
      obtain ⟨its2, n2, r2, e2, hs2, hl2⟩ := lstR I (.inr ⟨_, hb⟩)
      have g1 := rl.length
      have g2 := rb.length
      have hsz : its.toArray.size + its2.toArray.size ≤ sizeLine := by
        rw [List.size_toArray, List.size_toArray]
        omega
      have hlong : ¬ (!its.toArray.isEmpty && Builtin.List.listTooLong (its.toArray.size + its2.toArray.size)) = true := by
        rw [notLongL hsz, Bool.and_false]
        exact Bool.false_ne_true
      refine call_meets F.slot_list_extend ⟨_, e1, rfl⟩ F.entry_list_extend (F.args_list_extend_2 _ _) (AutoSeq1.list_extend_list_list_0 p its.toArray n b its2.toArray n2 hlong (by rw [List.size_toArray]; omega) (by omega)) ⟨e1, e2, ?_⟩
      refine ⟨.non, _, I.lset (its' := its ++ its2) hp e1 (by simp) (rr.append r2) ?_, rfl, k .non (ws ++ zs) (rl.append rb) .non⟩
      rw [List.length_append]
      omega
  · cases e
theorem Lk.mono {Q Q' : Hp → Prop} {H : Hp} (h : Lk Q H) (i : ∀ H, Q H → Q' H) : Lk Q' H := by
  induction h with
  | done q => exact .done (i _ q)
  | lock p xs e _ ih => exact .lock p xs e fun o hn => ih o hn
theorem star_few {env : PySem.Env} {pos : Pos} {es : List Expr} (h : es.all ns = true) : (backTo pos (starEach es env)).all (fun x => !x.1) = true := by
  have := star_plain (env := env) (pos := pos) h
  rw [List.any_eq_false] at this
  rw [List.all_eq_true]
  intro x hx
  have := this x hx
  cases hb : x.1 with
  | true => exact absurd hb this
  | false => rfl
/-- the slot whose list changes -/
theorem pe_mt {m : Mt} {i : Nat} {x nm : Str} {id : String} {as : Exs} {es : List Expr} {p apos pos : Pos} (G : Gd Φ Mu c X) (hi : c.N[i]? = some x) (hv : visB c x = true) (hd : (x == ("__debug__" : Str)) = false) (hcd : (x == ("__classdict__" : Str)) = false)
    (slot : Slot "list" nm id) (hty : typeOf (.builtin id) = pure (.type "method_descriptor")) (hm : MtR X id (mV (kw X) m)) (hline : (apos.endLine == pos.line) = true) (hlen : es.length < 30) (h : PEs Φ Mu mp X as es) : PE X (.Call (.Attribute (.Name x p) nm apos) es [] pos) (tM (kw X) (den Φ Mu mp (.meth m i as))) := by
  have ho := pe_var (X := X) (i := i) (pos := p) (by rw [G.n]; exact hi) (G.toGd0.vis hv) hd hcd
  have hns := h.ns
  cases es with
  | nil =>
    refine PE.imp (pe_bm0 PySem.F.plainAttrs_list slot hty hm (PE.lk G.sys ho) rfl hline) fun σ H Q q => ?_
    obtain ⟨p', hs, hp, q⟩ := meth_of mtS_list q
    cases h
    obtain ⟨ρ, rs, ρ', R, e, k⟩ := q
    rw [dens] at e
    cases e
    refine ⟨.ref p', hs, Lk.mono (k [] H (Out.refl R) .nil (by simp [owns])) fun H2 q2 => ⟨?_, q2⟩⟩
    obtain ⟨p2, vs, _, _, _, _, e2, hp2, _⟩ := q2
    cases e2
    exact .inl ⟨rfl, vs, .inl (.of hp2)⟩
  | cons e es =>
    rw [List.all_cons, Bool.and_eq_true] at hns
    have hfew : ((backTo pos (starEach (e :: es) X.env)).all (fun x => !x.1) && (backToKw pos (keywordEach [] X.env)).all (fun x => x.1.isSome) && decide ((e :: es).length + ([] : List Keyword).length + (if ([] : List Keyword).isEmpty then 0 else 1) < 30)) = true := by
      rw [star_few h.ns, Bool.true_and, Bool.and_eq_true]
      exact ⟨rfl, decide_eq_true (by simpa using hlen)⟩
    refine PE.imp (pe_bm PySem.F.plainAttrs_list slot hty hm ho (PA.lk G.sys h.pa) rfl hfew hline (star_cons hns.1) (star_plain hns.2)) fun σ H Q q => ?_
    obtain ⟨p', hs, hp, q⟩ := meth_of mtS_list q
    exact ⟨.ref p', hs, .inl ⟨rfl, hp.elim fun vs z => ⟨vs, .inl (.of z)⟩⟩, q⟩
end
end MP

/-! MP: comprehensions. -/
namespace MP
open PySem PySem.Spec PyProof.Rows L2

/-! ### slots forgotten and put back -/
theorem wipe_len (ρ : Env) : ∀ vs : List Nat, (wipe ρ vs).length = ρ.length
  | [] => rfl
  | v :: vs => by
    unfold wipe
    rw [List.length_set, wipe_len ρ vs]
theorem wipe_no {ρ : Env} {i : Nat} : ∀ {vs : List Nat}, i ∉ vs → (wipe ρ vs)[i]? = ρ[i]?
  | [], _ => rfl
  | v :: vs, h => by
    rw [List.mem_cons, not_or] at h
    unfold wipe
    rw [List.getElem?_set_ne fun z => h.1 z.symm, wipe_no h.2]
theorem wipe_in {ρ : Env} {i : Nat} {x : Bool × PyData} : ∀ {vs : List Nat}, (wipe ρ vs)[i]? = some (some x) → i ∉ vs ∧ ρ[i]? = some (some x)
  | [], h => ⟨by simp, h⟩
  | v :: vs, h => by
    unfold wipe at h
    by_cases e : v = i
    · subst e
      rw [List.getElem?_set] at h
      simp only [if_true] at h
      split at h <;> cases h
    · rw [List.getElem?_set_ne e] at h
      obtain ⟨h1, h2⟩ := wipe_in h
      exact ⟨by rw [List.mem_cons, not_or]; exact ⟨fun z => e z.symm, h1⟩, h2⟩
theorem back_len (ρ0 ρ : Env) : ∀ vs : List Nat, (back ρ0 ρ vs).length = ρ.length
  | [] => rfl
  | v :: vs => by
    unfold back
    rw [List.length_set, back_len ρ0 ρ vs]
theorem back_no {ρ0 ρ : Env} {i : Nat} : ∀ {vs : List Nat}, i ∉ vs → (back ρ0 ρ vs)[i]? = ρ[i]?
  | [], _ => rfl
  | v :: vs, h => by
    rw [List.mem_cons, not_or] at h
    unfold back
    rw [List.getElem?_set_ne fun z => h.1 z.symm, back_no h.2]
theorem back_in {ρ0 ρ : Env} {i : Nat} {x : Bool × PyData} : ∀ {vs : List Nat}, i ∈ vs → (back ρ0 ρ vs)[i]? = some (some x) → ρ0[i]? = some (some x)
  | v :: vs, hi, h => by
    unfold back at h
    by_cases e : v = i
    · subst e
      rw [List.getElem?_set] at h
      simp only [if_true] at h
      split at h
      · cases q : ρ0[v]? with
        | none => rw [q] at h; cases h
        | some y =>
          rw [q] at h
          exact h
      · cases h
    · rw [List.getElem?_set_ne e] at h
      rcases List.mem_cons.mp hi with z | z
      · exact absurd z.symm e
      · exact back_in z h
theorem lwipe_in {σ : L2.St} {i : Nat} {x : V} {vs : List Nat} (h : (L2.wipe σ vs)[i]? = some (some x)) : i ∉ vs ∧ σ[i]? = some (some x) := (L2.wipe_some h).symm
section
variable {K : MKx} {σ σ' : L2.St} {ρ ρ1 ρ2 : Env} {H H1 H2 : Hp} {own : List Nat} {D : Addr}
theorem env_wipe (R : EnvRel K σ ρ H) : EnvRel K (L2.wipe σ own) (wipe ρ own) H := by
  refine ⟨by rw [wipe_len, L2.wipe_length]; exact R.len, fun i d e => ?_, fun i d e => ?_, fun i j d e p h1 h2 h3 h4 => ?_⟩
  · obtain ⟨h1, h2⟩ := wipe_in e
    rw [L2.wipe_out h1]
    exact R.sh i d h2
  · obtain ⟨h1, h2⟩ := wipe_in e
    rw [L2.wipe_out h1]
    exact R.own i d h2
  · exact R.inj i j d e p (wipe_in h1).2 (wipe_in h2).2 (lwipe_in h3).2 (lwipe_in h4).2
theorem owned_wipe {a : Addr} (h : Owned (L2.wipe σ own) (wipe ρ own) a) : ∃ i d, i ∉ own ∧ ρ[i]? = some (some (true, d)) ∧ σ[i]? = some (some (V.ref a)) := by
  obtain ⟨i, d, h1, h2⟩ := h
  exact ⟨i, d, (wipe_in h1).1, (wipe_in h1).2, (lwipe_in h2).2⟩
/-- behind a comprehension -/
theorem out_back {ws : List V} (R : EnvRel K σ ρ1 H1) (hD : H1 D = none) (S : StpD K D (L2.wipe σ own) (wipe ρ1 own) (upd H1 D (.lst [])) σ' ρ2 H2) (F : Fr own (L2.wipe σ own) σ') : Out K σ ρ1 H1 (back ρ1 ρ2 own) H2 := by
  have ex0 : Ext H1 (upd H1 D (.lst [])) := Ext.upd hD
  have R0 : EnvRel K (L2.wipe σ own) (wipe ρ1 own) (upd H1 D (.lst [])) := (env_wipe R).more (kept_upd hD)
  have ex : Ext H1 H2 := ex0.trans (S.ext R0 upd_same)
  have hσ : ∀ {i : Nat}, i ∉ own → σ'[i]? = σ[i]? := fun {i} h => (F.2 i h).trans (L2.wipe_out h)
  -- an own slot ahead of it and another behind it never share a list
  have apart : ∀ {i j : Nat} {d e : PyData} {p : Addr}, i ∉ own → ρ2[i]? = some (some (true, d)) → σ[i]? = some (some (V.ref p)) → j ∈ own → ρ1[j]? = some (some (true, e)) → σ[j]? = some (some (V.ref p)) → False := fun {i j d e p} hi h1 h2 hj h3 h4 => by
    obtain ⟨k, f, g1, g2, g3⟩ := owned_wipe (S.less p ⟨i, d, h1, by rw [hσ hi]; exact h2⟩)
    have := R.inj k j f e p g2 h3 g3 h4
    subst this
    exact g1 hj
  refine ⟨⟨?_, fun i d e => ?_, fun i d e => ?_, fun i j d e p h1 h2 h3 h4 => ?_⟩, fun a o e n => ?_, fun a ⟨i, d, h1, h2⟩ => ?_, fun a o e => ?_⟩
  · rw [back_len, S.env.len, F.1, L2.wipe_length]
  · by_cases hi : i ∈ own
    · obtain ⟨x, h1, h2⟩ := R.sh i d (back_in hi e)
      exact ⟨x, h1, h2.ext ex⟩
    · rw [back_no hi] at e
      rw [← hσ hi]
      exact S.env.sh i d e
  · by_cases hi : i ∈ own
    · have h0 := back_in hi e
      obtain ⟨p, ds, h1, h2, xs, h3, h4⟩ := R.own i d h0
      have hpD : p ≠ D := fun z => by rw [z, hD] at h3; cases h3
      refine ⟨p, ds, h1, h2, xs, S.keep p _ (by rw [upd_ne hpD]; exact h3) hpD fun z => ?_, h4.ext ex⟩
      obtain ⟨k, f, g1, g2, g3⟩ := owned_wipe z
      have := R.inj k i f d p g2 h0 g3 h1
      subst this
      exact g1 hi
    · rw [back_no hi] at e
      rw [← hσ hi]
      exact S.env.own i d e
  · by_cases hi : i ∈ own
    · by_cases hj : j ∈ own
      · exact R.inj i j d e p (back_in hi h1) (back_in hj h2) h3 h4
      · rw [back_no hj] at h2
        exact (apart hj h2 h4 hi (back_in hi h1) h3).elim
    · rw [back_no hi] at h1
      by_cases hj : j ∈ own
      · exact (apart hi h1 h3 hj (back_in hj h2) h4).elim
      · rw [back_no hj] at h2
        exact S.env.inj i j d e p h1 h2 (by rw [hσ hi]; exact h3) (by rw [hσ hj]; exact h4)
  · have haD : a ≠ D := fun z => by rw [z, hD] at e; cases e
    refine S.keep a o (by rw [upd_ne haD]; exact e) haD fun z => n ?_
    obtain ⟨k, f, _, g2, g3⟩ := owned_wipe z
    exact ⟨k, f, g2, g3⟩
  · by_cases hi : i ∈ own
    · exact ⟨i, d, back_in hi h1, h2⟩
    · rw [back_no hi] at h1
      obtain ⟨k, f, _, g2, g3⟩ := owned_wipe (S.less a ⟨i, d, h1, by rw [hσ hi]; exact h2⟩)
      exact ⟨k, f, g2, g3⟩
  · have haD : a ≠ D := fun z => by rw [z, hD] at e; cases e
    exact S.there a o (by rw [upd_ne haD]; exact e)
end
/-! ### the inner code -/
/-- the item that is listed -/
def kElt (De : DE) : Env → Option (List PyData × Env) := fun ρ2 => match De ρ2 with
  | some (r, ρ3) => (match valOf ρ3 r with
    | some d => some ([d], frzR ρ3 r)
    | none => none)
  | none => none
section
variable {B : Cx} {D : Addr} {own : List Nat}
theorem in_elt {elt : Expr} {De : DE} (S : Sys B) (hx : ∀ e s, ¬ B.xe e s) (he : PE B elt (tM (kw B) De)) (E : Value → Shared → Prop) :
    InOk B D own (kElt De) fun G s => wpAny (model B.prog B.w) B.A (do let _ ← call (.builtin "list.append") [.ref D, ← eval elt B.env]) (fun _ s5 => G s5) E s := by
  intro pins s σ ρ H vs ds ρ' G I R hD hn hk hz post
  unfold kElt at hk
  split at hk
  · rename_i r ρ3 e1
    split at hk
    · rename_i d e2
      cases hk
      have h := (PE.lk S he).run pins s σ H (fun x H' => Out (kw B) σ ρ H (frzR ρ3 r) H' ∧ Rep (kw B) H' x d) I ⟨ρ, r, ρ3, R, e1, fun x H1 o1 r1 => frz_one R o1 r1 e2 fun H2 ex o2 rp => ⟨o2, rp⟩⟩
      refine wpAny_bind (thnX hx h fun u s1 ⟨x, H1, I1, r1, o1, rp⟩ => wpAny_bind ?_)
      have hD1 : H1 D = some (.lst vs) := o1.keep D _ hD hn
      have hn1 : ¬ Owned σ (frzR ρ3 r) D := fun z => hn (o1.less D z)
      refine app_ok I1 hD1 (by simp only [List.length_singleton] at hz; omega) r1 fun s2 I2 => wpAny_pure ?_
      exact post σ _ s2 [x] I2 (o1.d.trans (stp_app o1.env hD1 hn1)) (Fr.refl _ _) (.cons (rp.ext (Ext.frz hD1)) .nil) upd_same
    · cases hk
  · cases hk
theorem in_more {elt tg1 iter1 : Expr} {ifs1 : List Expr} {gens : List Comprehension} {scope : Scope} {pos : Pos} {k : Nat} {DI : Env → Option (List PyData × Env)} {F : List PyData → Env → Option (List PyData × Env)} (hx : ∀ e s, ¬ B.xe e s) (hk1 : gens[k + 1]? = some ⟨tg1, iter1, ifs1, 0⟩)
    (hi : PI B tg1 iter1 (tI (kw B) DI)) (hl : LpOk B (.ListComp elt gens scope pos) (k + 1) D own tg1 F) (E : Value → Shared → Prop) :
    InOk B D own (fun ρ => match DI ρ with | some (ys, ρ1) => F ys ρ1 | none => none) fun G s => wpAny (model B.prog B.w) B.A (eval iter1 B.env) (fun x s5 => wpAny (model B.prog B.w) B.A (pyIter x) (fun it1 s6 =>
      codeAny (model B.prog B.w) B.A (.compStart (.ListComp elt gens scope pos) (k + 1) it1 (.ref D) B.env) (fun r s' => match r with | .ok _ => G s' | .error _ => False) s6) E s5) E s := by
  intro pins s σ ρ H vs ds ρ' G I R hD hn hk hz post
  simp only at hk
  split at hk
  · rename_i ys ρ1 e1
    have h := hi.run pins s σ H (fun J H' => Out (kw B) σ ρ H ρ1 H' ∧ ItRel (kw B) J ys H') I ⟨ρ, ys, ρ1, R, e1, fun J H' o j => ⟨o, j⟩⟩
    refine thnX hx h fun x s5 h5 => thnX hx h5 fun it1 s6 h6 => ?_
    obtain ⟨it, fp, tn, J, H6, rfl, I6, T, st6, f6, o6, j6⟩ := h6
    have hD6 : H6 D = some (.lst vs) := o6.keep D _ hD hn
    have hn6 : ¬ Owned σ ρ1 D := fun z => hn (o6.less D z)
    have loop := hl J it fp tn ys pins s6 σ ρ1 H6 (fun r s' => match r with | .ok _ => G s' | .error _ => False) ds ρ' vs T I6 st6 f6 o6.env j6 hD6 hn6 hk hz fun σ' H' s' ws I' S' F' ra hD' => post σ' H' s' ws I' (o6.d.trans S') F' ra hD'
    exact start_of hk1 loop (T.self B.A 0 _ _ _ st6 loop)
  · cases hk
end
/-! ### a whole comprehension -/
section
variable {X : Cx}
theorem comp_run {pins : List (Addr × Obj)} {s : Shared} {σ : L2.St} {ρ : Env} {H : Hp} {Q : VK} {elt tg iter : Expr} {ifs : List Expr} {rest : List Comprehension} {scope : Scope} {own : List (Str × Nat)} {pos pos' : Pos} {DI : Env → Option (List PyData × Env)} {F : List PyData → Env → Option (List PyData × Env)} {use : Option (Value → Sem Unit)} {Qf : Value → Shared → Prop}
    {xs ds : List PyData} {ρ1 ρ2 : Env} (hc : X.calm = true) (hN : X.N.Nodup) (I : Inv X pins σ H s) (hi : PI X tg iter (tI (kw X) DI)) (ok : BlkOk X.N X.env.scope scope own)
    (hl : ∀ (s : Shared) (H : Hp) (C : Addr) (cl : List (Str × Addr)) (fp : List Addr) (D : Addr), LpOk (X.blk s H scope (compEnvC scope cl C X.env) fp) (.ListComp elt (⟨tg, iter, ifs, 0⟩ :: rest) scope pos) 0 D (own.map (·.2)) tg F) (hs : ∀ x, foldedSetIterable iter X.env x = pure x)
    (R : EnvRel (kw X) σ ρ H) (e1 : DI ρ = some (xs, ρ1)) (e2 : F xs (wipe ρ1 (own.map (·.2))) = some (ds, ρ2)) (hz : szOk ds.length = true) (k : ∀ D H', Out (kw X) σ ρ H (back ρ1 ρ2 (own.map (·.2))) H' → ResRel (kw X) σ H H' (.own (.list ds)) (.ref D) → Q (.ref D) H')
    (hRR : ∀ D C s' m H', Inv X pins σ H' s' → Q (.ref D) H' → s'.heap.Ns C m → FpOk X pins H' C → compPost (model X.prog X.w) X.A X.xe use Qf (.ref D) C (.ok .next) s') :
    wpAny (model X.prog X.w) X.A (comprehension (.ListComp elt (⟨tg, iter, ifs, 0⟩ :: rest) scope pos) scope X.env pos' (newList []) false (eval iter X.env) use) Qf X.xe s := by
  have hfree : ∀ y ∈ scope.names, y.2 = .free → ∃ c, X.env.cells.lookup y.1 = some c := fun y hy e => by
    rcases ok.free y hy e with k | k
    · exact I.ok.has _ (.inl k)
    · exact I.ok.has _ (.inr k)
  refine wpAny_comprehension_free (use := use) rfl hs (closure_ok hfree) ok.kind (fun y hy e => by rw [ok.uniq y hy, e])
    (thn (hi.run pins s σ H (fun J H' => Out (kw X) σ ρ H ρ1 H' ∧ ItRel (kw X) J xs H') I ⟨ρ, xs, ρ1, R, e1, fun J H' o j => ⟨o, j⟩⟩) fun xv s1 hx => thn hx fun itv s2 h2 => ?_)
  obtain ⟨it, fp, tn, J, H2, rfl, I2, T, st2, f2, o2, j2⟩ := h2
  refine wpAny_newObj_type (newEnv_comp ?_) (by show 0 ≤ sizeLine; decide)
  generalize hD : s2.heap.objs.size = D
  have hDn : H2 D = none := I2.hok.fresh (Nat.le_of_eq hD)
  generalize hs3 : ({ s2 with heap := s2.heap.push { cls := .type "list", data := .seq ([] : List Value).toArray } } : Shared) = s3
  have I3 : Inv X pins σ (upd H2 D (.lst [])) s3 := by
    rw [← hs3]
    refine I2.laid (t' := s2.toks) (fun b o e => Heap.get?_push_of_some _ e) (Nat.le_of_eq hD) ⟨Nat.zero_le _, [], 0, .nil, ?_⟩
    rw [← hD]
    exact Heap.get?_push_size _ rfl
  have h3 : s3.heap = s2.heap.push { cls := .type "list", data := .seq ([] : List Value).toArray } := by rw [← hs3]
  have sz : ∀ b ∈ fp, b < s2.heap.objs.size := fun b hb => by
    obtain ⟨o, e, _⟩ := T.obj _ _ st2 b hb
    exact Heap.lt_size e
  have f3 : ∀ b ∈ fp, FpOk X pins (upd H2 D (.lst [])) b ∧ b < s3.heap.objs.size := fun b hb => by
    have hlt := sz b hb
    refine ⟨⟨?_, (f2 b hb).2⟩, by rw [h3, Heap.size_push]; exact Nat.lt_succ_of_lt hlt⟩
    rw [upd_ne (by rw [← hD]; exact Nat.ne_of_lt hlt)]
    exact (f2 b hb).1
  have st3 : tn 0 s3.heap := T.keep _ _ _ st2 fun b _ o e => by rw [h3]; exact Heap.get?_push_of_some _ e
  have I4 := block_start I3 ok hN f3
  have lp := hl s3 (upd H2 D (.lst [])) s3.heap.objs.size (cellsFrom (s3.heap.objs.size + 1) scope.names (cloFrom X.env.cells scope.names [])) fp D
  show codeAny _ _ (.compStart (.ListComp elt (⟨tg, iter, ifs, 0⟩ :: rest) scope pos) 0 (.ref it) (.ref D) (compEnvC scope (cellsFrom (s3.heap.objs.size + 1) scope.names (cloFrom X.env.cells scope.names [])) s3.heap.objs.size X.env)) (compPost (model X.prog X.w) X.A X.xe use Qf (.ref D) s3.heap.objs.size) { s3 with heap := pushCells (s3.heap.push { cls := .type "dict", data := .dict #[] }) scope.names }
  have nfp : ∀ b ∈ fp, (upd H2 D (.lst [])) b = none := fun b hb => (f3 b hb).1.1
  generalize hce : compEnvC scope (cellsFrom (s3.heap.objs.size + 1) scope.names (cloFrom X.env.cells scope.names [])) s3.heap.objs.size X.env = ce at I4 lp ⊢
  have cL : ce.locals = s3.heap.objs.size := by subst hce; rfl
  have R2 : EnvRel (kw X) σ ρ1 H2 := o2.env
  have R3 : EnvRel (kw X) (L2.wipe σ (own.map (·.2))) (wipe ρ1 (own.map (·.2))) (upd H2 D (.lst [])) := (env_wipe R2).more (kept_upd hDn)
  have j3 : ItRel (kw X) J xs (upd H2 D (.lst [])) := j2.ext (Ext.upd hDn)
  have nD : ¬ Owned (L2.wipe σ (own.map (·.2))) (wipe ρ1 (own.map (·.2))) D := fun z => by
    obtain ⟨i, d, _, g2, g3⟩ := owned_wipe z
    obtain ⟨ys, q⟩ := R2.owned ⟨i, d, g2, g3⟩
    rw [hDn] at q
    cases q
  generalize hs4 : ({ s3 with heap := pushCells (s3.heap.push { cls := .type "dict", data := .dict #[] }) scope.names } : Shared) = s4 at I4 ⊢
  have st4 : tn 0 s4.heap := T.keep _ _ _ st3 fun b _ o e => by rw [← hs4]; exact pushCells_keeps _ _ _ _ (Heap.get?_push_of_some _ e)
  have f4 : ∀ b ∈ fp, FpOk (X.blk s3 (upd H2 D (.lst [])) scope ce fp) [] (upd H2 D (.lst [])) b := fun b hb =>
    ⟨nfp b hb, (I4.ok.exf b hb).1, I4.ok.exfs b hb, .inl hb, fun x c e => (I4.ok.exf b hb).2 x c e, fun p hp => absurd (show p ∈ ([] : List (Addr × Obj)) ++ [] from hp) (by simp)⟩
  have loop : codeAny (model X.prog X.w) X.A (.compLoop (.ListComp elt (⟨tg, iter, ifs, 0⟩ :: rest) scope pos) 0 (.ref it) (.ref D) ce) (compPost (model X.prog X.w) X.A X.xe use Qf (.ref D) s3.heap.objs.size) s4 := by
    refine lp J it fp tn xs [] s4 _ _ _ _ ds ρ2 [] T I4 st4 f4 R3 j3 upd_same nD e2 (by simpa using szOk_le hz) fun σ' H' s' ws I' S' F' ra hD' => ?_
    have o' := out_back (ws := ws) R2 hDn S' F'
    have I7 : Inv X pins σ H' s' := I3.call' (ch := fp) I'.os I'.base I'.hok I'.bare fun b hb => ⟨(f3 b hb).1.2.2.2.1, (f3 b hb).1.2.1, (f3 b hb).1.2.2.2.2.1, (f3 b hb).1.2.2.2.2.2⟩
    have nC : H' s3.heap.objs.size = none := by
      have z : H' ce.locals = none := I'.free
      rw [cL] at z
      exact z
    obtain ⟨m, hn, _⟩ := I'.loc
    have hn : s'.heap.Ns ce.locals m := hn
    rw [cL] at hn
    have fresh : H D = none := by
      cases hq : H D with
      | none => rfl
      | some o =>
        obtain ⟨o', z⟩ := o2.there D o hq
        rw [hDn] at z
        cases z
    exact hRR D s3.heap.objs.size s' m H' I7 (k D H' (Stp.trans o2 o') ⟨D, ds, rfl, rfl, ⟨ws, by simpa using hD', ra⟩, fresh⟩) hn (I3.fpOk (Nat.le_refl _) nC)
  exact codeAny_compStart_list loop (T.self X.A 0 _ _ _ st4 loop)
end
end MP

/-! MP: index, turned about, an empty dict. -/
namespace MP
open PySem PySem.Spec PyProof.Rows L2 PySem.Calls
section
variable {prog : Program} {w : World} {A : Around} {E : Value → Shared → Prop} {s : Shared}
/-! ### zip(a, b, strict=False) -/
theorem meets_zipF2 {v1 v2 : Value} {o1 o2 : Obj} {H1 H2 : Heap → Prop} (B1 : Begins v1 o1 H1) (B2 : Begins v2 o2 H2) :
    Meets (Builtin.«zip.__new__» ⟨[.type "zip", v1, v2], [(Str.ofString "strict", .bool false)]⟩) (fun _ R s => (H1 s.heap ∧ H2 s.heap) ∧ R (.ok (.ret (.ref (gzO2 s.heap o1 o2).objs.size))) { s with heap := gzZ2 s.heap o1 o2 }) :=
  .of_wp fun prog w A R s h => by
    obtain ⟨hp, g, d, tk, os⟩ := s; obtain ⟨⟨h1, h2⟩, h⟩ := h; have hsub := sub_zip
    have e2 : (Str.ofString "strict" != ("strict" : Str)) = false := by decide +kernel
    have q1 : ∀ {A' : Around} {E Q : Value → Shared → Prop}, Q (.ref hp.objs.size) ⟨(hp.push o1), g, d, tk, os⟩ → wpAny (model prog w) A' (pyIter v1) Q E ⟨hp, g, d, tk, os⟩ := fun q => B1.iter prog w _ _ ⟨hp, g, d, tk, os⟩ _ (B1.keeps _ _ h1 fun b o' e => e) q
    have q2 : ∀ {A' : Around} {E Q : Value → Shared → Prop}, Q (.ref (hp.push o1).objs.size) ⟨((hp.push o1).push o2), g, d, tk, os⟩ → wpAny (model prog w) A' (pyIter v2) Q E ⟨(hp.push o1), g, d, tk, os⟩ := fun q => B2.iter prog w _ _ ⟨(hp.push o1), g, d, tk, os⟩ _ (B2.keeps _ _ h2 fun b o' e => (Heap.get?_push_of_some _ e)) q
    wp_walk using q1, q2
    exact ⟨_, rfl, h⟩
theorem zipF_begins2 {v1 v2 : Value} {o1 o2 : Obj} {H1 H2 : Heap → Prop} {Q : Value → Shared → Prop} (B1 : Begins v1 o1 H1) (B2 : Begins v2 o2 H2) (h1 : H1 s.heap) (h2 : H2 s.heap)
    (h : ∀ h', IsZip h' (s.heap.objs.size + 4) (s.heap.objs.size + 2) (s.heap.objs.size + 3) .none → IsTupOf2 h' (s.heap.objs.size + 2) (.ref s.heap.objs.size) (.ref (s.heap.objs.size + 1)) → IsTupOf2 h' (s.heap.objs.size + 3) .none .none → h'.get? s.heap.objs.size = some o1 → h'.get? (s.heap.objs.size + 1) = some o2 → h'.objs.size = s.heap.objs.size + 5 →
      (∀ c o, s.heap.get? c = some o → h'.get? c = some o) → Q (.ref (s.heap.objs.size + 4)) { s with heap := h' }) : wpAny (model prog w) A (call (.type "zip") [v1, v2] [(Str.ofString "strict", .bool false)]) Q E s := by
  refine callType_newKw F.called_zip (by decide) (typeCall_zipS2 _ _ _) (newCall_zipS2 _ _ _) (fun obj => init_zipS2 obj _ _ _) F.entry_zip_new (meets_zipF2 B1 B2) ⟨⟨h1, h2⟩, ?_⟩
  have z1 : (s.heap.push o1).objs.size = s.heap.objs.size + 1 := by rw [Heap.size_push]
  have z2 : ((s.heap.push o1).push o2).objs.size = s.heap.objs.size + 2 := by rw [Heap.size_push, z1]
  have zT : (gzT2 s.heap o1 o2).objs.size = s.heap.objs.size + 3 := by rw [Heap.size_push, z2]
  have zO : (gzO2 s.heap o1 o2).objs.size = s.heap.objs.size + 4 := by rw [Heap.size_push, zT]
  have zZ : (gzZ2 s.heap o1 o2).objs.size = s.heap.objs.size + 5 := by rw [Heap.size_push, zO]
  have gZ : (gzZ2 s.heap o1 o2).get? (gzO2 s.heap o1 o2).objs.size = some { cls := .type "zip", data := .fields #[.none, .bool false, .bool false, .ref ((s.heap.push o1).push o2).objs.size, .ref (gzT2 s.heap o1 o2).objs.size] } := Heap.get?_push_size _ rfl
  have gO : (gzZ2 s.heap o1 o2).get? (gzT2 s.heap o1 o2).objs.size = some { cls := .type "tuple", data := .seq #[.none, .none] } := Heap.get?_push_of_some _ (Heap.get?_push_size _ rfl)
  have gT : (gzZ2 s.heap o1 o2).get? ((s.heap.push o1).push o2).objs.size = some { cls := .type "tuple", data := .seq #[.ref s.heap.objs.size, .ref (s.heap.push o1).objs.size] } := Heap.get?_push_of_some _ (Heap.get?_push_of_some _ (Heap.get?_push_size _ rfl))
  have g1 : (gzZ2 s.heap o1 o2).get? s.heap.objs.size = some o1 := Heap.get?_push_of_some _ (Heap.get?_push_of_some _ (Heap.get?_push_of_some _ (Heap.get?_push_of_some _ (Heap.get?_push_size _ B1.free))))
  have g2 : (gzZ2 s.heap o1 o2).get? (s.heap.push o1).objs.size = some o2 := Heap.get?_push_of_some _ (Heap.get?_push_of_some _ (Heap.get?_push_of_some _ (Heap.get?_push_size _ B2.free)))
  rw [zO, zT, z2] at gZ; rw [zT] at gO; rw [z2, z1] at gT
  rw [z1] at g2
  show _ ∧ _; rw [zO]
  exact ⟨⟨_, gZ, rfl⟩, h _ gZ gT gO g1 g2 zZ fun c o e => Heap.get?_push_of_some _ (Heap.get?_push_of_some _ (Heap.get?_push_of_some _ (Heap.get?_push_of_some _ (Heap.get?_push_of_some _ (e)))))⟩
end
open PyProof.Rows in
theorem pi_zF2 {X : Cx} {e e2 : Expr} {ta : TA} {p pos tpos : Pos} {elts : List Expr} {kk : Nat} {kj : Nat} {kc kp : Pos} (hg : Gl X "zip") (hm : X.mg "zip" = none) (ha : PA X [e, e2] ta) (hs : starEach [e, e2] X.env = (false, eval e X.env) :: starEach [e2] X.env) (hpl : (backTo pos (starEach [e2] X.env)).any (·.1) = false) :
    PI X (.Tuple elts kk tpos) (.Call (.Name "zip" p) [e, e2] [⟨some (Str.ofString "strict"), .Constant (.bool false) kj kc, kp⟩] pos) (iZz X.K ta) := by
  refine ⟨fun pins s σ H R I h => ?_⟩
  refine wpAny_Call_Name_kw (ld_blt I hg hm boot_zip (callT_kw (thn (ha.run pos pins s σ H _ I h) fun us s1 ⟨xs, H1, I1, r1, b1, b2, a1, a2, vs, ws, ex, hq, hq2, q⟩ => ?_) hs hpl rfl rfl))
  refine kws_cons (Constant_bool (kws_nil ?_))
  subst ex
  obtain ⟨u, u2, rfl, r, r'⟩ := vals2 r1
  cases r
  cases r'
  obtain ⟨its, rv, p1, _⟩ := hq.has I1
  obtain ⟨its2, rv2, p2, _⟩ := hq2.has I1
  have l1 := p1.lt
  have l2 := p2.lt
  show wpAny _ _ (call (.type "zip") [.ref a1, .ref a2] [(Str.ofString "strict", .bool false)]) _ _ _
  refine zipF_begins2 (src_begins b1 a1 its.toArray) (src_begins b2 a2 its2.toArray) p1 p2 fun h' hz hTI hTO h1 h2 hsz hk => wpAny_pyIter_zip hz ?_
  have I2 : Inv X pins σ H1 { s1 with heap := h' } := I1.kept (t' := s1.toks) hk
  refine ⟨s1.heap.objs.size + 4, [s1.heap.objs.size + 4, s1.heap.objs.size + 2, s1.heap.objs.size + 3, s1.heap.objs.size, s1.heap.objs.size + 1], _, _, H1, rfl, I2, turn_itzz (zip_sep2 (fun b hb => ?_) fun b hb => ?_) (Nat.ne_of_lt l1) (Nat.ne_of_lt (Nat.lt_succ_of_lt l2)), ⟨hz, hTI, ⟨_, _, hTO⟩, SrcIt.new h1, SrcIt.new h2⟩, fun c hc => zz_fresh (n := 0) I1 hc, q⟩
  · rw [List.mem_singleton.mp hb]
    exact l1
  · rw [List.mem_singleton.mp hb]
    exact l2
section
variable {prog : Program} {w : World} {A : Around} {E : Value → Shared → Prop} {s : Shared}
/-! ### t[::-1] -/
theorem adjust_back (n : Nat) : Builtin.Slice.sliceAdjust none none (-1) (n : Int) = ((n : Int) - 1, -1) := rfl
theorem places_back (n : Nat) : Builtin.Slice.slicePlaces ((n : Int) - 1) (-1) (-1) = n := by
  unfold Builtin.Slice.slicePlaces
  rw [if_neg (by decide)]
  split
  · have e : ((n : Int) - 1 - -1 - 1) / (- -1) + 1 = (n : Int) := by
      rw [show (- -1 : Int) = 1 from rfl, Int.ediv_one]
      omega
    rw [e, Int.toNat_natCast]
  · omega
theorem sliceApplied_back {sl : Addr} {vl vu vs : Value} {n : Nat} {Q : Int × Int × Nat → Shared → Prop} (hs : s.heap.IsSliceOf sl vl vu vs) (pl : IsPart vl none) (pu : IsPart vu none) (ps : IsPart vs (some (-1)))
    (h : Q ((n : Int) - 1, -1, n) s) : wpAny (model prog w) A (Builtin.Slice.sliceApplied (.ref sl) (pure (n : Int))) Q E s := by
  obtain ⟨os, h1, h2, h3⟩ := id hs
  unfold Builtin.Slice.sliceApplied Builtin.Slice.sliceFields
  refine wpAny_bind (wpAny_bind (wpAny_field h1 h3 (x := vl) rfl (wpAny_bind (wpAny_field h1 h3 (x := vu) rfl (wpAny_bind (wpAny_field h1 h3 (x := vs) rfl (wpAny_pure ?_)))))))
  refine wpAny_bind (HT.slicePart_ ps ?_)
  show wpAny _ _ (if ((-1 : Int) == 0) = true then _ else _) _ _ s
  rw [if_neg (by decide)]
  refine wpAny_bind (HT.slicePart_ pl (wpAny_bind (HT.slicePart_ pu (wpAny_bind (wpAny_pure ?_)))))
  show wpAny _ _ (match Builtin.Slice.sliceAdjust none none (-1) (n : Int) with | (lo, hi) => pure (lo, (-1 : Int), Builtin.Slice.slicePlaces lo hi (-1))) _ _ s
  rw [adjust_back n]
  show wpAny _ _ (pure ((n : Int) - 1, (-1 : Int), Builtin.Slice.slicePlaces ((n : Int) - 1) (-1) (-1))) _ _ s
  rw [places_back]
  exact wpAny_pure h
theorem fm_congr {α β : Type} {f g : α → Option β} : ∀ {l : List α}, (∀ x ∈ l, f x = g x) → l.filterMap f = l.filterMap g
  | [], _ => rfl
  | x :: l, h => by
    have ih := fm_congr (l := l) fun y hy => h y (by simp [hy])
    rw [List.filterMap_cons, List.filterMap_cons, h x (by simp), ih]
theorem pick_back (xs : Array Value) : ((List.range xs.size).filterMap fun (k : Nat) => xs[((xs.size : Int) - 1 + (k : Int) * -1).toNat]?).toArray = xs.toList.reverse.toArray := by
  congr 1
  have e : ((List.range xs.size).filterMap fun (k : Nat) => xs[((xs.size : Int) - 1 + (k : Int) * -1).toNat]?) = (List.range xs.size).filterMap fun (k : Nat) => xs.toList.reverse[k]? := by
    refine fm_congr fun k hk => ?_
    have hk := List.mem_range.mp hk
    rw [List.getElem?_reverse (by simpa using hk), Array.getElem?_toList, show ((xs.size : Int) - 1 + (k : Int) * -1).toNat = xs.toList.length - 1 - k by rw [Array.length_toList]; omega]
  rw [e]
  have : ∀ (l : List Value), (List.range l.length).filterMap (fun k => l[k]?) = l := by
    intro l
    induction l with
    | nil => rfl
    | cons x l ih =>
      rw [List.length_cons, List.range_succ_eq_map, List.filterMap_cons]
      simp only [List.getElem?_cons_zero, List.filterMap_map]
      congr 1
  have h2 := this xs.toList.reverse
  rw [List.length_reverse, Array.length_toList] at h2
  rw [h2]
theorem getItem_tuple_back {t sl : Addr} {items : Array Value} {vl vu vs : Value} {Q : Value → Shared → Prop} (ht : IsTup s.heap t items) (hs : s.heap.IsSliceOf sl vl vu vs) (pl : IsPart vl none) (pu : IsPart vu none) (ps : IsPart vs (some (-1)))
    (h : Q (.ref s.heap.objs.size) { s with heap := s.heap.push { cls := .type "tuple", data := .seq items.toList.reverse.toArray } }) (hsz : items.size ≤ sizeLine) : wpAny (model prog w) A (getItem (.ref t) (.ref sl)) Q E s := by
  obtain ⟨os, h1, h2, h3⟩ := id hs
  have hT : s.TypeIs (.ref sl) "slice" := ⟨os, h1, h2⟩
  unfold getItem
  try with_reducible refine wpAny_holding ?_
  first | refine wpAny_bind (wpAny_pure ?_) | skip
  refine wpAny_bind (wpAny_sequenceKey ht.typeIs (by decide) ?_)
  refine wpAny_bind (wpAny_callSpecial?_slot (name := Str.ofString "__getitem__") ht.typeIs PyProof.Rows.slot_tuple_getitem (wpAny_call_entry PyProof.Rows.slot_tuple_getitem ht.typeIs entry_tuple_getitem ?_ (args_tuple_getitem _ _)))
  show wpAny _ _ (Builtin.Tuple.tupleItemsOf (.ref t) >>= _) _ _ s
  refine wpAny_bind (tupleItemsOf_ ht ?_); refine wpAny_bind (wpAny_typeOf hT ?_)
  rw [if_pos (by decide)]
  refine wpAny_bind (sliceApplied_back hs pl pu ps ?_)
  have hno : ¬ ((((items.size : Int) - 1) == 0 && (-1 : Int) == 1 && items.size == items.size) = true) := by simp
  show wpAny _ _ (if ((((items.size : Int) - 1) == 0 && (-1 : Int) == 1 && items.size == items.size) = true) then _ else _) _ _ s
  rw [if_neg hno, pick_back]
  have hz : sizeOk (.seq items.toList.reverse.toArray) := by
    show items.toList.reverse.toArray.size ≤ sizeLine
    rw [List.size_toArray, List.length_reverse, Array.length_toList]
    exact hsz
  first
    | exact wpAny_bind (m := Builtin.Tuple.tupleExact _) (wpAny_newObj_type (wpAny_pure ⟨_, rfl, wpAny_pure h⟩) hz)
    | exact wpAny_bind (m := Builtin.Tuple.tupleExact _) (wpAny_newObj_type (wpAny_bind (wpAny_pure (wpAny_pure ⟨_, rfl, wpAny_pure h⟩))) hz)
    | exact wpAny_bind (wpAny_bind (m := Builtin.Tuple.tupleExact _) (wpAny_newObj_type (wpAny_pure (wpAny_pure ⟨_, rfl, wpAny_pure h⟩)) hz))
    | exact wpAny_bind (wpAny_bind (m := Builtin.Tuple.tupleExact _) (wpAny_newObj_type (wpAny_pure ⟨_, rfl, wpAny_pure h⟩) hz))
end
section
variable {Φ : Ph} {Mu : Nat → List Bool} {mp : List Nat} {c : Ck} {X : Cx}
/-! ### {} -/
theorem pe_emp {pos : Pos} : PE X (.Dict [] [] pos) (tM (kw X) (den Φ Mu mp (.cst .emp))) := ⟨fun pins s σ H Q I ⟨ρ, r, ρ', R, e, k⟩ => by
  rw [den] at e
  cases e
  refine thn ((pe_dnewK (X := X) (pos := pos)).run pins s σ H (fun x H1 => ∃ p, x = .ref p ∧ H p = none ∧ H1 = upd H p (.dK [])) I (fun p hp => ⟨p, rfl, hp, rfl⟩)) fun v s1 ⟨x, H1, I1, r1, p, ex, hp, e1⟩ => ?_
  subst ex e1
  obtain ⟨od, I2⟩ := I1.lock upd_same trivial
  rw [upd_upd] at I2
  exact ⟨.ref p, _, I2, r1, k _ _ (Out.more R (kept_upd hp)) (show Rep (kw X) (upd H p (.frz od (.dK []))) (.ref p) (.dict []) from .dic upd_same)⟩⟩
/-! ### x[::-1] -/
theorem pe_back {a : Ex} {l : Expr} {k : Nat} {p1 p2 p3 pos : Pos} (h : PE X l (tM (kw X) (den Φ Mu mp a))) : PE X (.Subscript l (.Slice none none (some (.UnaryOp .USub (.Constant (.int 1) k p1) p2)) p3) pos) (tM (kw X) (den Φ Mu mp (.slice a .nil .nil (some (-1))))) := ⟨fun pins s σ H Q I ⟨ρ, r, ρ', R, e, kk⟩ => by
  obtain ⟨ra, ρ1, pl, ρ2, ph, d, ⟨own, o⟩, h1, h2, h3, h4, h5, rfl⟩ := den_slice e
  have e2 : pl = none ∧ ρ2 = ρ1 := by
    unfold denP at h2
    rw [dens] at h2
    cases h2
    exact ⟨rfl, rfl⟩
  obtain ⟨rfl, rfl⟩ := e2
  have e3 : ph = none ∧ ρ' = ρ2 := by
    unfold denP at h3
    rw [dens] at h3
    cases h3
    exact ⟨rfl, rfl⟩
  obtain ⟨rfl, rfl⟩ := e3
  refine Subscript_ (thn (h.run pins s σ H (fun x H1 => Out (kw X) σ ρ H ρ' H1 ∧ ResRel (kw X) σ H H1 ra x) I ⟨ρ, ra, ρ', R, h1, fun x H1 o1 s1 => ⟨o1, s1⟩⟩) fun v s1 ⟨x, H1, I1, r1, o1, r2⟩ => ?_)
  have hst : PO X (some (.UnaryOp .USub (.Constant (.int 1) k p1) p2)) (tPart (tUn (rU fun i => .int (-i)) (tC (.int 1)))) := po_some (pe_un un_neg pe_int)
  refine wpAny_Slice (thn (po_none.run pins s1 σ H1 (fun o H2 => o = none ∧ H2 = H1) I1 ⟨rfl, rfl⟩) fun vl s2 ⟨u1, H2, I2, q1, z, z2⟩ => ?_); subst z z2
  refine thn (po_none.run pins s2 σ H2 (fun o H3 => o = none ∧ H3 = H2) I2 ⟨rfl, rfl⟩) fun vu s3 ⟨u2, H3, I3, q2, z, z2⟩ => ?_; subst z z2
  refine thn (hst.run pins s3 σ H3 (fun o H4 => o = some (-1) ∧ H4 = H3) I3 ⟨1, rfl, -1, rfl, rfl, rfl⟩) fun vs s4 ⟨u3, H4, I4, q3, z, z2⟩ => ?_; subst z z2
  have I5 : Inv X pins σ H4 { s4 with heap := s4.heap.push { cls := .type "slice", data := .fields #[vl, vu, vs] } } := I4.kept (t' := s4.toks) fun b ob q => Heap.get?_push_of_some _ q
  have g := r2.readable o1.env h4
  cases d <;> try (cases h5; done)
  · rename_i ds
    cases h5
    obtain ⟨p, xs, rfl, q, rr⟩ := g.lst
    cases r1
    obtain ⟨its, rv, ht, hz⟩ := I5.list (.inl q)
    have hlen := rv.length
    show wpAny (model X.prog X.w) X.A (subscriptTail l (.Slice none none (some (.UnaryOp .USub (.Constant (.int 1) k p1) p2)) p3) (.ref p) (.ref s4.heap.objs.size)) _ _ _
    refine tail_any (ops := [.ref p, .ref s4.heap.objs.size]) ht.isList.typeIs (PySem.slot_list_getitem.lookup) ?_ (by with_unfolding_all rfl)
    refine wpAny_getItem_list_slice ht.isList (Heap.IsSliceOf.new _ vl vu vs) q1 q2 q3 (by decide) ?_ (by rw [List.size_toArray]; omega)
    rw [PySem.W.krv_pick]
    have hf := I5.hok.fresh (Nat.le_refl _)
    refine ⟨.ref _, _, I5.laid (t' := s4.toks) (o := .lst xs.reverse) (fun b ob q => Heap.get?_push_of_some _ q) (Nat.le_refl _) ?_, rfl, kk _ _ (Stp.trans o1 (Out.more o1.env (kept_upd hf))) (ResRel.early R o1 (new_lst hf rr.reverse).res)⟩
    exact ⟨by rw [List.length_reverse]; exact hz, _, 0, rv.reverse, Heap.get?_push_size _ rfl⟩
  · rename_i ds
    cases h5
    obtain ⟨p, xs, rfl, q, rr⟩ := g.tup
    cases r1
    obtain ⟨its, rv, ht, hz⟩ := I5.tuple q
    have hlen := rv.length
    show wpAny (model X.prog X.w) X.A (subscriptTail l (.Slice none none (some (.UnaryOp .USub (.Constant (.int 1) k p1) p2)) p3) (.ref p) (.ref s4.heap.objs.size)) _ _ _
    refine tail_any (ops := [.ref p, .ref s4.heap.objs.size]) ht.typeIs PyProof.Rows.slot_tuple_getitem.lookup ?_ (by with_unfolding_all rfl)
    refine getItem_tuple_back ht (Heap.IsSliceOf.new _ vl vu vs) q1 q2 q3 ?_ (by rw [List.size_toArray]; omega)
    have hf := I5.hok.fresh (Nat.le_refl _)
    refine ⟨.ref _, _, I5.laid (t' := s4.toks) (o := .tup xs.reverse) (fun b ob q => Heap.get?_push_of_some _ q) (Nat.le_refl _) ?_, rfl, kk _ _ (Stp.trans o1 (Out.more o1.env (kept_upd hf))) (ResRel.early R o1 (new_tup hf rr.reverse).res)⟩
    exact ⟨by rw [List.length_reverse]; exact hz, _, rv.reverse, _, Heap.get?_push_size _ rfl, rfl, 0, rfl⟩⟩
/-! ### xs.index(i), of ints -/
theorem intsOf_map : ∀ {ds : List PyData} {ns : List Int}, intsOf ds = some ns → ds = ns.map .int
  | [], ns, h => by
    cases h
    rfl
  | d :: ds, ns, h => by
    cases d <;> try (cases h; done)
    obtain ⟨ms, h1, rfl⟩ := Option.map_eq_some_iff.mp (show (intsOf ds).map _ = some ns from h)
    rw [intsOf_map h1]
    rfl
theorem mt_ixI : MtR X "list.index" (fun x xs H Q => ∃ (p : Addr) (ns : List Int) (k : Int), x = .ref p ∧ xs = [.int k] ∧ SqL X.K H p (ns.map V.int) ∧ k ∈ ns ∧ Q (.int ((ns.idxOf k : Nat) : Int)) H) := by
  intro pins s σ H x xs v us Q I rx rv ⟨p, ns, k, e1, e2, hl, hk, q⟩
  subst e1 e2
  cases rx
  obtain ⟨u, rfl, ru⟩ := rv.one
  obtain ⟨t, rfl⟩ := ru
  obtain ⟨its, r, pl, hz⟩ := I.list hl
  exact PySem.SeqAt.list_index_ints pl.isList (intsAre_of r) (by simpa using hz) hk ⟨.int _, H, I.tok _, ⟨_, rfl⟩, q⟩
def nsup : Expr → Bool
  | .Call (.Name _ _) [] [] _ => false
  | _ => true
theorem abase {l : Expr} (h : nsup l = true) (nm : Str) (env : PySem.Env) (w : Sem Value) : attributeBase l nm env w = w := by
  unfold attributeBase
  split
  · cases h
  · rfl
/-- what is borrowed is owned -/
theorem den_bor : ∀ (e : Ex) {ρ ρ1 : Env} {i : Nat}, den Φ Mu mp e ρ = some (.bor i, ρ1) → ∃ d, ρ1[i]? = some (some (true, d))
  | .var j, ρ, ρ1, i, h => by
    rw [den] at h
    split at h
    · cases h
      exact ⟨_, by assumption⟩
    · cases h
    · cases h
  | .ite t a b, ρ, ρ1, i, h => by
    rw [den] at h
    split at h
    · split at h
      · exact den_bor a h
      · exact den_bor b h
      · cases h
    · cases h
  | .cst _, ρ, ρ1, i, h => by rw [den] at h; cases h
  | .glb _ _, ρ, ρ1, i, h => by rw [den] at h; cases h
  | .op o es, ρ, ρ1, i, h => by
    rw [den] at h
    split at h
    · split at h
      · split at h
        · rename_i r _
          obtain ⟨b, d⟩ := r
          cases b <;> cases h
        · cases h
      · cases h
    · cases h
  | .and _, ρ, ρ1, i, h => by
    rw [den] at h
    split at h <;> cases h
  | .or _, ρ, ρ1, i, h => by
    rw [den] at h
    split at h <;> cases h
  | .chain _ _ _ _ _, ρ, ρ1, i, h => by
    rw [den] at h
    repeat' (first | (cases h; done) | split at h)
  | .slice _ _ _ _, ρ, ρ1, i, h => by
    obtain ⟨_, _, _, _, _, _, ⟨b, d⟩, _, _, _, _, _, e⟩ := den_slice h
    cases b <;> cases e
  | .call _ _, ρ, ρ1, i, h => by
    obtain ⟨_, _, _, ⟨b, d⟩, _, _, _, _, _, _, _, _, e⟩ := den_call h
    cases b <;> cases e
  | .meth _ _ _, ρ, ρ1, i, h => by
    rw [den] at h
    repeat' (first | (cases h; done) | split at h)
  | .comp _ _ _, ρ, ρ1, i, h => by
    rw [den] at h
    repeat' (first | (cases h; done) | split at h)
/-- two arguments, the first of them a list: it is so as soon as it is there -/
theorem args2L {K : MKx} {σ : L2.St} {H : Hp} {Q : List V → Hp → Prop} {a b : Ex} (h : ∃ ρ rs ρ', EnvRel K σ ρ H ∧ dens Φ Mu mp (.cons a (.cons b .nil)) ρ = some (rs, ρ') ∧ (∃ xs d, valsOf ρ' rs = some [.list xs, d]) ∧ ∀ xs H', Out K σ ρ H ρ' H' → ResAll K σ H H' rs xs → (owns rs xs).Nodup → Q xs H') :
    tM K (den Φ Mu mp a) σ H fun x H1 => (∃ p ys, x = .ref p ∧ Rd H1 p (.lst ys)) ∧ tMs K (dens Φ Mu mp (.cons b .nil)) σ H1 fun ys H2 => Q (x :: ys) H2 := by
  obtain ⟨ρ, rs, ρ', R, e, ⟨xs0, d0, ev⟩, k⟩ := h
  rw [dens] at e
  cases ea : den Φ Mu mp a ρ with
  | none => simp [ea] at e
  | some z =>
    obtain ⟨r, ρ1⟩ := z
    simp only [ea] at e
    cases eb : dens Φ Mu mp (.cons b .nil) ρ1 with
    | none => simp [eb] at e
    | some z =>
      obtain ⟨rs', ρ2⟩ := z
      simp only [eb] at e
      cases e
      have ev1 : valOf ρ' (fixB ρ1 ρ' r) = some (.list xs0) := by
        unfold valsOf at ev
        cases q : valOf ρ' (fixB ρ1 ρ' r) with
        | none => simp [q] at ev
        | some d =>
          cases q2 : valsOf ρ' rs' with
          | none => simp [q, q2] at ev
          | some ds =>
            simp only [q, q2] at ev
            cases ev
            rfl
      refine ⟨ρ, r, ρ1, R, ea, fun x H1 o1 r1 => ⟨?_, ?_⟩⟩
      · cases r with
        | sh d =>
          have ev1 : some d = some (.list xs0) := ev1
          cases ev1
          have r1 : Rep K H1 x (.list xs0) := r1
          cases r1 with
          | lst hp _ _ => exact ⟨_, _, rfl, .inr ⟨_, hp⟩⟩
        | own d =>
          obtain ⟨p, ds, rfl, _, ⟨zs, hp, _⟩, n⟩ := r1
          exact ⟨p, zs, rfl, .inl hp⟩
        | bor i =>
          obtain ⟨d, hd⟩ := den_bor a ea
          obtain ⟨p, e1, e2⟩ := r1
          obtain ⟨ys, hy⟩ := o1.env.owned ⟨i, d, hd, e2⟩
          exact ⟨p, ys, e1, .inl hy⟩
      · refine ⟨ρ1, rs', ρ', o1.env, eb, fun ys H2 o2 r2 nd => ?_⟩
        have nd2 : (owns (fixB ρ1 ρ' r :: rs') (x :: ys)) = owns (r :: rs') (x :: ys) := by
          rcases fixB_eq ρ1 ρ' r with z | ⟨i, d, rfl, z, _⟩
          · rw [z]
          · rw [z]
            simp [owns]
        have rr : ResRel K σ H H2 (fixB ρ1 ρ' r) x := by
          rcases fixB_eq ρ1 ρ' r with z | ⟨i, d, rfl, z, hi⟩
          · rw [z]
            exact r1.stay R o1 o2
          · rw [z]
            obtain ⟨p, e1, e2⟩ := r1
            obtain ⟨y, g1, g2⟩ := o2.env.sh i d hi
            rw [e2] at g1
            cases g1
            subst e1
            exact g2
        refine k (x :: ys) H2 (o1.trans o2) (.cons rr (r2.early R o1)) ?_
        rw [nd2]
        cases r with
        | sh d => simpa [owns] using nd
        | bor i => simpa [owns] using nd
        | own d =>
          obtain ⟨p, ds, rfl, _, ⟨zs, hp, _⟩, n⟩ := r1
          simp only [owns, List.nodup_cons]
          refine ⟨fun hm => ?_, nd⟩
          rw [(r2.owns_at p hm).1] at hp
          cases hp
theorem index_of {ds : List PyData} {o : Bool × PyData} (h : opS .index ds = some o) : ∃ xs i ns, ds = [.list xs, .int i] ∧ intsOf xs = some ns ∧ i ∈ ns ∧ o = (false, .int ((ns.idxOf i : Nat) : Int)) := by
  match ds, h with
  | [], h => cases h
  | [d], h => cases d <;> cases h
  | [d, d2], h =>
    cases d <;> try (cases h; done)
    cases d2 <;> try (cases h; done)
    rename_i xs i
    obtain ⟨ns, h1, h2⟩ := Option.bind_eq_some_iff.mp (show (intsOf xs).bind _ = some o from h)
    split at h2
    · cases h2
      exact ⟨xs, i, ns, rfl, h1, by assumption, rfl⟩
    · cases h2
  | d :: d2 :: d3 :: r, h =>
    cases d <;> try (cases h; done)
    cases d2 <;> cases h
theorem pe_index {a b : Ex} {l x : Expr} {ap cp : Pos} (h : PEs Φ Mu mp X (.cons a (.cons b .nil)) [l, x]) (hl : nsup l = true) (hline : (ap.endLine == cp.line) = true) : PE X (.Call (.Attribute l "index" ap) [x] [] cp) (tM (kw X) (den Φ Mu mp (.op .index (.cons a (.cons b .nil))))) := by
  cases h with
  | cons hn h1 _ h =>
    have hns := h.ns
    rw [List.all_cons, Bool.and_eq_true] at hns
    have hfew : ((backTo cp (starEach [x] X.env)).all (fun x => !x.1) && (backToKw cp (keywordEach [] X.env)).all (fun x => x.1.isSome) && decide ([x].length + ([] : List Keyword).length + (if ([] : List Keyword).isEmpty then 0 else 1) < 30)) = true := by
      rw [star_few h.ns, Bool.true_and, Bool.and_eq_true]
      exact ⟨rfl, decide_eq_true (by simp)⟩
    refine PE.imp (pe_bm PySem.F.plainAttrs_list PySem.F.slot_list_index PySem.F.type_list_index mt_ixI h1 h.pa (abase hl _ _ _) hfew hline (star_cons hns.1) (star_plain hns.2)) fun σ H Q q => ?_
    rw [den_op rfl] at q
    obtain ⟨ρ, r, ρ', R, e, k⟩ := q
    unfold dOp at e
    split at e
    · rename_i rs ρ1 e1
      split at e
      · rename_i ds e2
        split at e
        · rename_i o e3
          cases e
          obtain ⟨xs, z, ns, rfl, hn, hz, rfl⟩ := index_of e3
          refine tM_mono (args2L ⟨ρ, rs, ρ', R, e1, ⟨xs, .int z, e2⟩, fun vs H2 o2 r2 _ => r2.readAll o2.env e2 |> fun ra => (⟨o2, r2, ra⟩ : Out (kw X) σ ρ H ρ' H2 ∧ ResAll (kw X) σ H H2 rs vs ∧ ReadAll (kw X) H2 vs _)⟩) fun x H1 ⟨⟨p, ys, e4, hp⟩, q1⟩ => ⟨?_, ?_⟩
          · subst e4
            exact .inl ⟨rfl, ys, .inl hp⟩
          · obtain ⟨ρa, rsa, ρb, Ra, ea, ka⟩ := q1
            refine ⟨ρa, rsa, ρb, Ra, ea, fun ys2 H2 oa ra nda => ?_⟩
            obtain ⟨o2, r2, ra⟩ := ka ys2 H2 oa ra nda
            cases ra with
            | cons g1 ra =>
              cases ra with
              | cons g2 ra =>
                cases ra
                rw [intsOf_map hn] at g1
                obtain ⟨p', vs, e6, q, rr⟩ := g1.lst
                rw [e4] at e6
                cases e6
                rw [rr.ints] at q
                exact ⟨p, ns, z, e4, by rw [g2.int], .inl q, hz, k _ H2 o2 (show Rep (kw X) H2 _ _ from .int _)⟩
        · cases e
      · cases e
    · cases e
end
end MP

/-! MP: expressions are checked. -/
namespace MP
open PySem PySem.Spec PyProof.Rows L2

def bnO : Bn → Operator
  | .add => .Add
  | .sub => .Sub
  | .mul => .Mult
  | .fdiv => .FloorDiv
  | .mod => .Mod
  | .pow => .Pow
def cmO : Cm → CmpOp
  | .eq => .Eq
  | .ne => .NotEq
  | .lt => .Lt
  | .le => .LtE
  | .gt => .Gt
  | .ge => .GtE
  | .isin => .In
  | .nin => .NotIn
  | .is => .Is
  | .isnt => .IsNot
/-- a built-in's name, as a function (true) or a type -/
def callN : Op → Option (Bool × String)
  | .len => some (true, "len")
  | .int => some (false, "int")
  | .tuple => some (false, "tuple")
  | .list => some (false, "list")
  | .sum => some (true, "sum")
  | .sorted => some (true, "sorted")
  | .all => some (true, "all")
  | .any => some (true, "any")
  | .repr => some (true, "repr")
  | .min1 => some (true, "min")
  | .max1 => some (true, "max")
  | .min2 => some (true, "min")
  | .max2 => some (true, "max")
  | _ => none
def notSet : Expr → Bool
  | .Set _ _ _ => false
  | _ => true
theorem fsi {iter : Expr} (h : notSet iter = true) (env : PySem.Env) (x : Value) : foldedSetIterable iter env x = pure x := by
  cases iter <;> first | rfl | cases h
/-- a name that is a plain one -/
def plN (x : Str) : Bool := !(x == ("__debug__" : Str)) && !(x == ("__classdict__" : Str))
theorem plN_of {x : Str} (h : plN x = true) : (x == ("__debug__" : Str)) = false ∧ (x == ("__classdict__" : Str)) = false := by
  unfold plN at h
  simpa using h
/-- a call of a built-in -/
def chkC (c : Ck) (n : String) (e : Expr) (k : List Expr → Bool) : Bool := match e with
  | .Call (.Name f _) (x :: xs) [] _ => decide (f = Str.ofString n) && glB c f && k (x :: xs)
  | _ => false
theorem chkC_of {c : Ck} {n : String} {e : Expr} {k : List Expr → Bool} (h : chkC c n e k = true) : ∃ p x xs pos, e = .Call (.Name (Str.ofString n) p) (x :: xs) [] pos ∧ glB c (Str.ofString n) = true ∧ k (x :: xs) = true := by
  unfold chkC at h
  split at h
  · simp only [Bool.and_eq_true, decide_eq_true_eq] at h
    obtain ⟨⟨e1, hg⟩, hk⟩ := h
    subst e1
    exact ⟨_, _, _, _, rfl, hg, hk⟩
  · cases h
def chkO (c : Ck) (o : Op) (e : Expr) (k : List Expr → Bool) : Bool := match o with
  | .bin b => (match e with
    | .BinOp l op r _ => decide (bnO b = op) && k [l, r]
    | _ => false)
  | .neg => (match e with
    | .UnaryOp .USub x _ => k [x]
    | _ => false)
  | .not => (match e with
    | .UnaryOp .Not x _ => k [x]
    | _ => false)
  | .cmp m => (match e with
    | .Compare l [op] [r] _ => decide (cmO m = op) && (!behindInMarks op r && k [l, r])
    | _ => false)
  | .isN => (match e with
    | .Compare l [.Is] [.Constant .none _ _] _ => k [l]
    | _ => false)
  | .nisN => (match e with
    | .Compare l [.IsNot] [.Constant .none _ _] _ => k [l]
    | _ => false)
  | .isa ts => (match e with
    | .Call (.Name f _) [x, t] [] _ => decide (f = "isinstance") && glB c f && k [x] && (match ts, t with
      | ts, .Tuple es _ _ => tysE c ts es && decide (ts.length ≤ 100)
      | [t'], t => tyE c t' t
      | _, _ => false)
    | _ => false)
  | .tup => (match e with
    | .Tuple es _ _ => k es
    | _ => false)
  | .lst => (match e with
    | .List es _ => k es
    | _ => false)
  | .idx => (match e with
    | .Subscript l r _ => notSl r && k [l, r]
    | _ => false)
  | .index => (match e with
    | .Call (.Attribute l nm ap) [x] [] cp => decide (nm = Str.ofString "index") && (nsup l && (ap.endLine == cp.line)) && k [l, x]
    | _ => false)
  | .lrng => (match e with
    | .Call (.Name f _) [.Call (.Name g _) es [] _] [] _ => decide (f = "list") && decide (g = "range") && glB c f && glB c g && k es && (es.length == 1 || es.length == 2)
    | _ => false)
  | .trng => (match e with
    | .Call (.Name f _) [.Call (.Name g _) es [] _] [] _ => decide (f = "tuple") && decide (g = "range") && glB c f && glB c g && k es && (es.length == 1 || es.length == 2)
    | _ => false)
  | o => (match callN o with
    | some (_, n) => chkC c n e k
    | none => false)
theorem len_two {α : Type} : ∀ {xs : List α}, xs.length = 2 → ∃ x y, xs = [x, y]
  | [x, y], _ => ⟨x, y, rfl⟩
/-- what is shown of an expression -/
abbrev SE (Φ : Ph) (Mu : Nat → List Bool) (mp : List Nat) (X : Cx) (e : Expr) (a : Ex) : Prop := PE X e (tM (kw X) (den Φ Mu mp a)) ∧ PT X e (tT (kw X) (bT (den Φ Mu mp a)))
section
variable {Φ : Ph} {Mu : Nat → List Bool} {mp : List Nat} {c : Ck} {X : Cx}
theorem se_of {e : Expr} {a : Ex} (h : PE X e (tM (kw X) (den Φ Mu mp a))) (he : ∀ whole, isTrue e X.env whole = (do let v ← whole; standAt e.pos; holding [v] (truthy v))) : SE Φ Mu mp X e a := ⟨h, pt_of h he⟩
theorem pes1 {as : Exs} {x : Expr} (h : PEs Φ Mu mp X as [x]) : ∃ a, as = .cons a .nil := by
  cases h with
  | cons _ _ _ r =>
    cases r
    exact ⟨_, rfl⟩
theorem pes2 {as : Exs} {x y : Expr} (h : PEs Φ Mu mp X as [x, y]) : ∃ a b, as = .cons a (.cons b .nil) := by
  cases h with
  | cons _ _ _ r =>
    obtain ⟨b, rfl⟩ := pes1 r
    exact ⟨_, b, rfl⟩
theorem bin_ok (G : Gd Φ Mu c X) (b : Bn) : OpV X (binaryOp (bnO b)) (.bin b) := by
  cases b with
  | add => exact ov_add
  | sub => exact ov_sub
  | mul => exact ov_mul
  | fdiv => exact ov_fdiv
  | mod => exact ov_mod
  | pow => exact ov_pow
theorem cm_ok (G : Gd Φ Mu c X) (m : Cm) : OpV X (compareOp (cmO m)) (.cmp m) := by
  cases m with
  | eq => exact ov_eq G.sys G.un
  | ne => exact ov_ne G.sys G.un
  | lt => exact ov_lt G.sys G.un
  | le => exact ov_le
  | gt => exact ov_gt
  | ge => exact ov_ge
  | isin => exact ov_in G.sys G.un
  | nin => exact ov_nin G.sys G.un
  | is => exact ov_is
  | isnt => exact ov_isnt
theorem se_op {o : Op} {e : Expr} {k : List Expr → Bool} {es : Exs} (G : Gd Φ Mu c X) (hk : ∀ xs, k xs = true → PEs Φ Mu mp X es xs) (h : chkO c o e k = true) : SE Φ Mu mp X e (.op o es) := by
  have cb : ∀ {id : String} {n : String}, CallV X (.builtin id) o → o.stores = false → Str.ofString n ∈ blts → bootBuiltins (Str.ofString n) = some (.builtin id) → Str.ofString n ≠ "__name__" → (Str.ofString n == ("__debug__" : Str)) = false → chkC c n e k = true →
      SE Φ Mu mp X e (.op o es) := fun {id n} hc hs hx hv hn hd h => by
    obtain ⟨p, x, xs, pos, e1, hg, h2⟩ := chkC_of h
    subst e1
    exact se_of (pe_cb (a := .cst .non) G hc hs hg hx hv hn hd (hk _ h2)) fun _ => rfl
  have ct : ∀ {T : String} {n : String}, CallV X (.type T) o → o.stores = false → Str.ofString n ∈ blts → bootBuiltins (Str.ofString n) = some (.type T) → Str.ofString n ≠ "__name__" → (Str.ofString n == ("__debug__" : Str)) = false → chkC c n e k = true →
      SE Φ Mu mp X e (.op o es) := fun {T n} hc hs hx hv hn hd h => by
    obtain ⟨p, x, xs, pos, e1, hg, h2⟩ := chkC_of h
    subst e1
    exact se_of (pe_ct G hc hs hg hx hv hn hd (hk _ h2)) fun _ => rfl
  have hcalm := G.calm
  cases o with
  | bin b =>
    cases e <;> try (cases h; done)
    rename_i l op r pos
    have h1 : (decide (bnO b = op) && k [l, r]) = true := h
    rw [Bool.and_eq_true, decide_eq_true_eq] at h1
    obtain ⟨e1, h2⟩ := h1
    subst e1
    have hp := hk _ h2
    obtain ⟨a, b', rfl⟩ := pes2 hp
    exact se_of (pe_bin (bin_ok G b) rfl hp) fun _ => rfl
  | neg =>
    cases e <;> try (cases h; done)
    rename_i op x pos
    cases op <;> try (cases h; done)
    have hp := hk _ (show k [x] = true from h)
    obtain ⟨a, rfl⟩ := pes1 hp
    exact se_of (pe_uny uv_neg rfl hp) fun _ => rfl
  | not =>
    cases e <;> try (cases h; done)
    rename_i op x pos
    cases op <;> try (cases h; done)
    have hp := hk _ (show k [x] = true from h)
    obtain ⟨a, rfl⟩ := pes1 hp
    exact pe_no hp
  | cmp m =>
    simp only [chkO] at h
    split at h
    · simp only [Bool.and_eq_true, decide_eq_true_eq, Bool.not_eq_true'] at h
      obtain ⟨e1, hm, h2⟩ := h
      subst e1
      have hp := hk _ h2
      obtain ⟨a, b, rfl⟩ := pes2 hp
      exact pe_cm (cm_ok G m) rfl hm hp
    · cases h
  | isN =>
    simp only [chkO] at h
    split at h
    · have hp := hk _ h
      obtain ⟨a, rfl⟩ := pes1 hp
      exact pe_isN hp
    · cases h
  | nisN =>
    simp only [chkO] at h
    split at h
    · have hp := hk _ h
      obtain ⟨a, rfl⟩ := pes1 hp
      exact pe_nisN hp
    · cases h
  | isB b =>
    cases h
  | isa ts =>
    simp only [chkO] at h
    split at h
    · simp only [Bool.and_eq_true, decide_eq_true_eq] at h
      obtain ⟨⟨⟨e1, hg⟩, h2⟩, ht⟩ := h
      subst e1
      have hp := hk _ h2
      obtain ⟨a, rfl⟩ := pes1 hp
      split at ht
      · rw [Bool.and_eq_true, decide_eq_true_eq] at ht
        exact se_of (pe_is2 G hg hp ht.1 ht.2) fun _ => rfl
      · exact se_of (pe_is1 G hg hp ht) fun _ => rfl
      · cases ht
    · cases h
  | tup =>
    cases e <;> try (cases h; done)
    exact se_of (pe_tp G.sys (hk _ h)) fun _ => rfl
  | lst =>
    cases e <;> try (cases h; done)
    exact se_of (pe_ls G.sys (hk _ h)) fun _ => rfl
  | idx =>
    cases e <;> try (cases h; done)
    rename_i l r pos
    replace h : (notSl r && k [l, r]) = true := h
    rw [Bool.and_eq_true] at h
    have hp := hk _ h.2
    obtain ⟨a, b, rfl⟩ := pes2 hp
    exact se_of (pe_idx h.1 hp) fun _ => rfl
  | lrng =>
    simp only [chkO] at h
    split at h
    · rename_i f _ g _ xs _ _
      simp only [Bool.and_eq_true, decide_eq_true_eq, Bool.or_eq_true, beq_iff_eq] at h
      obtain ⟨⟨⟨⟨⟨e1, e2⟩, hg⟩, hg2⟩, h2⟩, hl⟩ := h
      subst e1 e2
      have hp := hk _ h2
      rcases hl with hl | hl
      · obtain ⟨x, rfl⟩ := List.length_eq_one_iff.mp hl
        obtain ⟨a, rfl⟩ := pes1 hp
        exact se_of (pe_rg1 G hg hg2 hp) fun _ => rfl
      · obtain ⟨x, y, rfl⟩ := len_two hl
        obtain ⟨a, b, rfl⟩ := pes2 hp
        exact se_of (pe_rg2 G hg hg2 hp) fun _ => rfl
    · cases h
  | trng =>
    simp only [chkO] at h
    split at h
    · rename_i f _ g _ xs _ _
      simp only [Bool.and_eq_true, decide_eq_true_eq, Bool.or_eq_true, beq_iff_eq] at h
      obtain ⟨⟨⟨⟨⟨e1, e2⟩, hg⟩, hg2⟩, h2⟩, hl⟩ := h
      subst e1 e2
      have hp := hk _ h2
      rcases hl with hl | hl
      · obtain ⟨x, rfl⟩ := List.length_eq_one_iff.mp hl
        obtain ⟨a, rfl⟩ := pes1 hp
        exact se_of (pe_tg1 G hg hg2 hp) fun _ => rfl
      · obtain ⟨x, y, rfl⟩ := len_two hl
        obtain ⟨a, b, rfl⟩ := pes2 hp
        exact se_of (pe_tg2 G hg hg2 hp) fun _ => rfl
    · cases h
  | index =>
    simp only [chkO] at h
    split at h
    · simp only [Bool.and_eq_true, decide_eq_true_eq] at h
      obtain ⟨⟨e1, h1, h2⟩, h3⟩ := h
      subst e1
      have hp := hk _ h3
      obtain ⟨a, b, rfl⟩ := pes2 hp
      exact se_of (pe_index hp h1 h2) fun _ => rfl
    · cases h
  | len => exact cb cv_len rfl (by decide +kernel) (by kernel_rfl) (by decide +kernel) (by decide +kernel) h
  | int => exact ct cv_int rfl (by decide +kernel) (by kernel_rfl) (by decide +kernel) (by decide +kernel) h
  | tuple => exact ct cv_tuple rfl (by decide +kernel) (by kernel_rfl) (by decide +kernel) (by decide +kernel) h
  | list => exact ct cv_list rfl (by decide +kernel) (by kernel_rfl) (by decide +kernel) (by decide +kernel) h
  | sum => exact cb (cv_sum hcalm) rfl (by decide +kernel) (by kernel_rfl) (by decide +kernel) (by decide +kernel) h
  | sorted => exact cb (cv_sorted hcalm G.sys G.un) rfl (by decide +kernel) (by kernel_rfl) (by decide +kernel) (by decide +kernel) h
  | all => exact cb (cv_all hcalm) rfl (by decide +kernel) (by kernel_rfl) (by decide +kernel) (by decide +kernel) h
  | any => exact cb (cv_any hcalm) rfl (by decide +kernel) (by kernel_rfl) (by decide +kernel) (by decide +kernel) h
  | repr => exact cb (cv_repr G.sys G.gds G.un) rfl (by decide +kernel) (by kernel_rfl) (by decide +kernel) (by decide +kernel) h
  | min1 => exact cb (cv_min1 hcalm G.sys G.un) rfl (by decide +kernel) (by kernel_rfl) (by decide +kernel) (by decide +kernel) h
  | max1 => exact cb (cv_max1 hcalm G.sys G.un) rfl (by decide +kernel) (by kernel_rfl) (by decide +kernel) (by decide +kernel) h
  | min2 => exact cb (cv_min2 hcalm) rfl (by decide +kernel) (by kernel_rfl) (by decide +kernel) (by decide +kernel) h
  | max2 => exact cb (cv_max2 hcalm) rfl (by decide +kernel) (by kernel_rfl) (by decide +kernel) (by decide +kernel) h
end
end MP

/-! MP: all expressions are checked. -/
namespace MP
open PySem PySem.Spec PyProof.Rows L2
section
variable {Φ : Ph} {Mu : Nat → List Bool} {mp : List Nat} {c : Ck} {X : Cx}
/-- two comparisons in a chain -/
theorem chain_of {o1 o2 : Cm} {a b d : Ex} {σ : L2.St} {H : Hp} {Q : VK} (h : tM (kw X) (den Φ Mu mp (.chain o1 o2 a b d)) σ H Q) :
    tChain (fun x y H Q => rV (kw X) (.cmp o1) [x, y] H Q) (fun x y H Q => rV (kw X) (.cmp o2) [x, y] H Q) (tM (kw X) (den Φ Mu mp a)) (tM (kw X) (den Φ Mu mp b)) (tM (kw X) (den Φ Mu mp d)) σ H Q := by
  obtain ⟨ρ, r, ρ', R, e, k⟩ := h
  rw [den] at e
  split at e
  · rename_i ra ρ1 h1
    split at e
    · rename_i rb ρ2 h2
      split at e
      · rename_i x y h3 h4
        split at e
        · rename_i h5
          split at e
          · rename_i rc ρ3 h6
            split at e
            · rename_i z y' h7 h8
              split at e
              · rename_i kk h9
                cases e
                refine ⟨ρ, ra, ρ1, R, h1, fun xv H1 o1' s1 => ⟨ρ1, rb, ρ2, o1'.env, h2, fun yv H2 o2' s2 => ?_⟩⟩
                refine ⟨[x, y], false, .bool true, .cons ((s1.stay R o1' o2').readable o2'.env h3) (.cons (s2.readable o2'.env h4) .nil), by simp only [opS, h5]; rfl, fun zv H3 kp nr => ⟨true, by cases (show Rep (kw X) H3 zv (.bool true) from nr); rfl, ?_⟩⟩
                rw [if_pos rfl]
                have o3' : Out (kw X) σ ρ2 H2 ρ2 H3 := Out.more o2'.env kp
                refine ⟨ρ2, rc, _, o3'.env, h6, fun wv H4 o4' s4 => ?_⟩
                have s2' : ResRel (kw X) σ H1 H4 rb yv := s2.stay o1'.env o2' (Stp.trans o3' o4')
                refine ⟨[y', z], false, .bool kk, .cons (s2'.readable o4'.env h8) (.cons (s4.readable o4'.env h7) .nil), by simp only [opS, h9]; rfl, fun zv2 H5 kp2 nr2 => ?_⟩
                exact k zv2 H5 (Stp.trans (Stp.trans (Stp.trans o1' o2') (Stp.trans o3' o4')) (Out.more o4'.env kp2)) nr2
              · cases e
            · cases e
          · cases e
        · rename_i h5
          cases e
          refine ⟨ρ, ra, ρ1, R, h1, fun xv H1 o1' s1 => ⟨ρ1, rb, _, o1'.env, h2, fun yv H2 o2' s2 => ?_⟩⟩
          refine ⟨[x, y], false, .bool false, .cons ((s1.stay R o1' o2').readable o2'.env h3) (.cons (s2.readable o2'.env h4) .nil), by simp only [opS, h5]; rfl, fun zv H3 kp nr => ⟨false, by cases (show Rep (kw X) H3 zv (.bool false) from nr); rfl, ?_⟩⟩
          rw [if_neg Bool.false_ne_true]
          exact k (.bl false) H3 (Stp.trans (Stp.trans o1' o2') (Out.more o2'.env kp)) (.bl false)
        · cases e
      · cases e
    · cases e
  · cases e
theorem se_chain {o1 o2 : Cm} {a b d : Ex} {ea eb ed : Expr} {pos : Pos} (G : Gd Φ Mu c X) (hm : lastMarks [cmO o1, cmO o2] [eb, ed] = false) (ha : PE X ea (tM (kw X) (den Φ Mu mp a))) (hb : PE X eb (tM (kw X) (den Φ Mu mp b))) (hd : PE X ed (tM (kw X) (den Φ Mu mp d))) :
    SE Φ Mu mp X (.Compare ea [cmO o1, cmO o2] [eb, ed] pos) (.chain o1 o2 a b d) :=
  ⟨PE.imp (pe_chain (cm_ok G o1) (cm_ok G o2) ha hb hd hm) fun σ H Q q => chain_of q, PT.imp (pt_chain (cm_ok G o1) (cm_ok G o2) ha hb hd hm) fun σ H Q q => chain_of (tT_of q)⟩
end
/-! ### the check -/
mutual
def eqP : PyData → PyData → Bool
  | .int i, .int j => decide (i = j)
  | .str x, .str y => decide (x = y)
  | .tuple xs, .tuple ys => eqPs xs ys
  | _, _ => false
def eqPs : List PyData → List PyData → Bool
  | [], [] => true
  | x :: xs, y :: ys => eqP x y && eqPs xs ys
  | _, _ => false
end
mutual
theorem eqP_eq : ∀ {a b : PyData}, eqP a b = true → a = b
  | .int i, b, h => by
    cases b <;> try (cases h; done)
    rw [of_decide_eq_true (show decide (i = _) = true from h)]
  | .str x, b, h => by
    cases b <;> try (cases h; done)
    rw [of_decide_eq_true (show decide (x = _) = true from h)]
  | .tuple xs, b, h => by
    cases b <;> try (cases h; done)
    rw [eqPs_eq (show eqPs xs _ = true from h)]
  | .none, _, h => by cases h
  | .bool _, _, h => by cases h
  | .list _, _, h => by cases h
  | .dict _, _, h => by cases h
theorem eqPs_eq : ∀ {a b : List PyData}, eqPs a b = true → a = b
  | [], [], _ => rfl
  | x :: xs, y :: ys, h => by
    have h2 : (eqP x y && eqPs xs ys) = true := h
    rw [Bool.and_eq_true] at h2
    rw [eqP_eq h2.1, eqPs_eq h2.2]
  | [], _ :: _, h => by cases h
  | _ :: _, [], h => by cases h
end
def blkK (c : Ck) (scope : Scope) : Ck := { c with sc := relS scope c.sc, fnb := fun x => scope.names.lookup x == some .cell }
def ownP (c : Ck) (own : List Nat) : List (Str × Nat) := own.map fun i => ((c.N[i]?).getD "", i)
def chkP (k : Exs → List Expr → Bool) (as : Exs) (e : Option Expr) : Bool := match e with
  | none => k as []
  | some x => k as [x]
def methN (m : Mt) : String := match m with
  | .append => "append"
  | .extend => "extend"
  | .insert => "insert"
  | .pop => "pop"
  | .clear => "clear"
/-- strict=True, or nothing -/
def kwZ (st : Bool) (kws : List Keyword) : Bool := match kws with
  | [] => !st
  | [⟨some k, .Constant (.bool true) _ _, _⟩] => st && decide (k = Str.ofString "strict")
  | _ => false
theorem kwZ_of {st : Bool} {kws : List Keyword} (h : kwZ st kws = true) : (st = false ∧ kws = []) ∨ ∃ j p q, st = true ∧ kws = [⟨some (Str.ofString "strict"), .Constant (.bool true) j p, q⟩] := by
  unfold kwZ at h
  split at h
  · exact .inl ⟨by simpa using h, rfl⟩
  · simp only [Bool.and_eq_true, decide_eq_true_eq] at h
    obtain ⟨h1, h2⟩ := h
    subst h2
    exact .inr ⟨_, _, _, h1, rfl⟩
  · cases h
/-- strict=False -/
def kwF (st : Bool) (kws : List Keyword) : Bool := match kws with
  | [⟨some k, .Constant (.bool false) _ _, _⟩] => !st && decide (k = Str.ofString "strict")
  | _ => false
theorem kwF_of {st : Bool} {kws : List Keyword} (h : kwF st kws = true) : ∃ j p q, st = false ∧ kws = [⟨some (Str.ofString "strict"), .Constant (.bool false) j p, q⟩] := by
  unfold kwF at h
  split at h
  · simp only [Bool.and_eq_true, decide_eq_true_eq] at h
    obtain ⟨h1, h2⟩ := h
    subst h2
    exact ⟨_, _, _, by simpa using h1, rfl⟩
  · cases h
def nilB : Exs → Bool
  | .nil => true
  | _ => false
mutual
def chkE (c : Ck) : Ex → Expr → Bool
  | .var i, e => (match e with
    | .Name x _ => decide (c.N[i]? = some x) && (visB c x && plN x)
    | _ => false)
  | .cst k, e => (match e with
    | .Constant z _ _ => csB k z
    | .Dict [] [] _ => (match k with
      | .emp => true
      | _ => false)
    | _ => false)
  | .glb n d, e => (match e with
    | .Name x _ => decide (x = Str.ofString n) && (glB c x && (plN x && c.gl.any fun p => decide (p.1 = x) && eqP p.2 d))
    | _ => false)
  | .op o es, e => chkO c o e fun xs => chkEs c es xs
  | .and es, e => (match e with
    | .BoolOp .And (x :: xs) _ => chkEs c es (x :: xs)
    | _ => false)
  | .or es, e => (match e with
    | .BoolOp .Or (x :: xs) _ => chkEs c es (x :: xs)
    | _ => false)
  | .chain o1 o2 a b d, e => (match e with
    | .Compare l [p, q] [m, r] _ => decide (cmO o1 = p) && decide (cmO o2 = q) && !behindInMarks q r && chkE c a l && chkE c b m && chkE c d r
    | _ => false)
  | .ite t a b, e => (match e with
    | .IfExp x y z _ => chkE c t x && chkE c a y && chkE c b z
    | _ => false)
  | .slice a lo hi st, e => (match e, st with
    | .Subscript l (.Slice el eh none _) _, none => chkE c a l && (match el with
      | none => chkEs c lo []
      | some x => chkEs c lo [x]) && (match eh with
      | none => chkEs c hi []
      | some x => chkEs c hi [x])
    | .Subscript l (.Slice none none (some (.UnaryOp .USub (.Constant (.int 1) _ _) _)) _) _, some k => decide (k = -1) && chkE c a l && (nilB lo && nilB hi)
    | _, _ => false)
  | .call f es, e => (match e with
    | .Call (.Name x _) xs [] _ => decide (c.fs[f]? = some x) && (glB c x && plN x) && chkEs c es xs
    | _ => false)
  | .meth m i es, e => (match e with
    | .Call (.Attribute (.Name x _) nm ap) xs [] cp => decide (c.N[i]? = some x) && (visB c x && plN x) && decide (nm = Str.ofString (methN m)) && (ap.endLine == cp.line) && decide (xs.length < 30) && chkEs c es xs
    | _ => false)
  | .comp own elt cl, e => (match e with
    | .ListComp ee gens scope _ => blkC c.N c.sc scope (ownP c own) && chkE (blkK c scope) elt ee && chkCl c (blkK c scope) own cl gens
    | _ => false)
def chkEs (c : Ck) : Exs → List Expr → Bool
  | .nil, [] => true
  | .cons a r, e :: es => ns e && chkE c a e && chkEs c r es
  | _, _ => false
def chkI (c : Ck) : It → Expr → Expr → Bool
  | .val a, _, e => chkE c a e
  | .rng as, _, e => (match e with
    | .Call (.Name f _) es [] _ => decide (f = "range") && glB c f && (es.length == 1 || es.length == 2) && chkEs c as es
    | _ => false)
  | .enm a, .Tuple _ _ _, e => (match e with
    | .Call (.Name f _) [x] [] _ => decide (f = "enumerate") && glB c f && ns x && chkE c a x
    | _ => false)
  | .zip st as, .Tuple _ _ _, e => (match e with
    | .Call (.Name f _) [x, y] kws _ => decide (f = "zip") && glB c f && chkEs c as [x, y] && (kwZ st kws || kwF st kws)
    | .Call (.Name f _) [x, y, z] kws _ => decide (f = "zip") && glB c f && chkEs c as [x, y, z] && kwZ st kws
    | _ => false)
  | _, _, _ => false
def chkCl (ci cb : Ck) (own : List Nat) : Cl → List Comprehension → Bool
  | .last t i ifs, gs => (match gs with
    | [⟨tg, iter, es, a⟩] => decide (a = 0) && notSet iter && chkI ci i tg iter && chkT cb t tg && (t.slots.all fun j => own.contains j) && chkEs cb ifs es
    | _ => false)
  | .more t i ifs r, gs => (match gs with
    | ⟨tg, iter, es, a⟩ :: g => decide (a = 0) && notSet iter && chkI ci i tg iter && chkT cb t tg && (t.slots.all fun j => own.contains j) && chkEs cb ifs es && chkCl cb cb own r g
    | [] => false)
end

/-! ### it is sound -/
section
variable {Φ : Ph} {Mu : Nat → List Bool} {mp : List Nat}
theorem Gd.blk {c : Ck} {X : Cx} (G : Gd Φ Mu c X) (scope : Scope) (s : Shared) (H : Hp) (C : Addr) (cl : List (Str × Addr)) (fp : List Addr) : Gd Φ Mu (blkK c scope) (X.blk s H scope (compEnvC scope cl C X.env) fp) :=
  { n := G.n
    nd := G.nd
    sc := by
      show relS scope X.env.scope = relS scope c.sc
      rw [G.sc]
    fn := fun x h => h
    calm := G.calm
    sys := G.sys
    un := G.un
    gds := G.gds
    blt := G.blt
    fn' := G.fn'
    gl' := G.gl' }
theorem ownP_snd (c : Ck) (own : List Nat) : (ownP c own).map (·.2) = own := by
  unfold ownP
  rw [List.map_map]
  exact List.map_id own
/-- a sequence is walked -/
theorem pi_val {X : Cx} {tg e : Expr} {a : Ex} (S : Sys X) (h : PE X e (tM (kw X) (den Φ Mu mp a))) : PI X tg e (tI (kw X) (denI Φ Mu mp (.val a))) := by
  refine ⟨fun pins s σ H R I q => (pi_seq (PE.lk S h)).run pins s σ H R I ?_⟩
  obtain ⟨ρ, xs, ρ', R0, e1, k⟩ := q
  rw [denI] at e1
  split at e1
  · rename_i r ρ1 h1
    split at e1
    · rename_i d h2
      split at e1
      · rename_i ys h3
        cases e1
        refine ⟨ρ, r, ρ1, R0, h1, fun x H1 o1 r1 => frz_one R0 o1 r1 h2 fun H2 ex o2 rp => ?_⟩
        cases d <;> try (cases h3; done)
        · cases h3
          cases rp with
          | lst hp _ ra => exact ⟨true, _, _, rfl, .inr ⟨_, hp⟩, k _ _ o2 (it_list hp ra)⟩
        · cases h3
          cases rp with
          | tup hp ra => exact ⟨false, _, _, rfl, hp, k _ _ o2 (it_tup hp ra)⟩
      · cases e1
    · cases e1
  · cases e1
/-- a fixed sequence -/
theorem src_of {K : MKx} {H : Hp} {x : V} {d : PyData} {ds : List PyData} (h : Rep K H x d) (e : asSeq d = some ds) : ∃ b a vs, x = .ref a ∧ SrcF K H b a vs ∧ RepAll K H vs ds := by
  cases d <;> try (cases e; done)
  · cases e
    cases h with
    | lst hp _ ra => exact ⟨true, _, _, rfl, ⟨_, hp⟩, ra⟩
  · cases e
    cases h with
    | tup hp ra => exact ⟨false, _, _, rfl, hp, ra⟩
theorem dens_len {X : Cx} : ∀ {as : Exs} {es : List Expr} {ρ : Env} {rs : List Res} {ρ' : Env}, PEs Φ Mu mp X as es → dens Φ Mu mp as ρ = some (rs, ρ') → rs.length = es.length
  | _, _, _, _, _, .nil, e => by
    rw [dens] at e
    cases e
    rfl
  | _, _, _, _, _, .cons _ _ _ h, e => by
    rw [dens] at e
    split at e
    · split at e
      · rename_i h2
        cases e
        rw [List.length_cons, List.length_cons, dens_len h h2]
      · cases e
    · cases e
theorem pi_rng {X : Cx} {c : Ck} {tg : Expr} {as : Exs} {es : List Expr} {p pos : Pos} (G : Gd Φ Mu c X) (hg : glB c "range" = true) (hl : es.length = 1 ∨ es.length = 2) (h : PEs Φ Mu mp X as es) : PI X tg (.Call (.Name "range" p) es [] pos) (tI (kw X) (denI Φ Mu mp (.rng as))) := by
  have red : ∀ {σ : L2.St} {H : Hp} {R : L2.It → Hp → Prop}, tI (kw X) (denI Φ Mu mp (.rng as)) σ H R → tMs (kw X) (dens Φ Mu mp as) σ H fun xs H1 => ∃ ds ys, xs.length = es.length ∧ ReadAll (kw X) H1 xs ds ∧ rng ds = some ys ∧ ∀ J, ItRel (kw X) J ys H1 → R J H1 := fun {σ H R} q => by
    obtain ⟨ρ, xs, ρ', R0, e1, k⟩ := q
    rw [denI] at e1
    split at e1
    · rename_i rs ρ1 h1
      split at e1
      · rename_i ds h2
        split at e1
        · rename_i ys h3
          cases e1
          exact ⟨ρ, rs, _, R0, h1, fun vs H1 o1 r1 _ => ⟨ds, _, by rw [← r1.length]; exact dens_len h h1, r1.readAll o1.env h2, h3, fun J j => k J H1 o1 j⟩⟩
        · cases e1
      · cases e1
    · cases e1
  rcases hl with hl | hl
  · obtain ⟨x, rfl⟩ := List.length_eq_one_iff.mp hl
    have hns := h.ns
    rw [List.all_cons, Bool.and_eq_true] at hns
    refine ⟨fun pins s σ H R I q => (pi_range1 (G.toGd0.gl hg) (G.blt _ (by decide +kernel)) h.pa (star_cons hns.1)).run pins s σ H R I ?_⟩
    obtain ⟨ρ, rs, ρ', R0, e1, k⟩ := red q
    refine ⟨ρ, rs, ρ', R0, e1, fun vs H1 o1 r1 nd => ?_⟩
    obtain ⟨ds, ys, hlen, ra, hr, kk⟩ := k vs H1 o1 r1 nd
    have hl2 := ra.length
    rcases rng_cases hr with ⟨b, rfl, ok, rfl⟩ | ⟨a, b, rfl, ok, rfl⟩
    · cases ra with
      | cons g gr =>
        cases gr
        obtain ⟨_, _, b3, b4, _⟩ := rng_ok ok
        refine ⟨b, by rw [g.int], b3, b4, kk _ ?_⟩
        have := it_rng (K := (kw X)) (H := H1) (lo := 0) (hi := b)
        rw [Int.sub_zero] at this
        exact this
    · rw [hlen] at hl2
      simp at hl2
  · obtain ⟨x, y, rfl⟩ := len_two hl
    have hns := h.ns
    rw [List.all_cons, Bool.and_eq_true, List.all_cons, Bool.and_eq_true] at hns
    refine ⟨fun pins s σ H R I q => (pi_range2 (G.toGd0.gl hg) (G.blt _ (by decide +kernel)) h.pa (by rw [star_cons hns.1, star_cons hns.2.1]; rfl) (star_cons hns.2.1)).run pins s σ H R I ?_⟩
    obtain ⟨ρ, rs, ρ', R0, e1, k⟩ := red q
    refine ⟨ρ, rs, ρ', R0, e1, fun vs H1 o1 r1 nd => ?_⟩
    obtain ⟨ds, ys, hlen, ra, hr, kk⟩ := k vs H1 o1 r1 nd
    have hl2 := ra.length
    rcases rng_cases hr with ⟨b, rfl, ok, rfl⟩ | ⟨a, b, rfl, ok, rfl⟩
    · rw [hlen] at hl2
      simp at hl2
    · cases ra with
      | cons g gr =>
        cases gr with
        | cons g2 gr =>
          cases gr
          obtain ⟨b1, b2, b3, b4, _⟩ := rng_ok ok
          exact ⟨a, b, by rw [g.int, g2.int], ⟨b1, b2, b3, b4⟩, kk _ it_rng⟩
theorem pi_enm {X : Cx} {c : Ck} {elts : List Expr} {kk : Nat} {tpos : Pos} {a : Ex} {e : Expr} {p pos : Pos} (G : Gd Φ Mu c X) (hg : glB c "enumerate" = true) (hn : ns e = true) (h : PE X e (tM (kw X) (den Φ Mu mp a))) : PI X (.Tuple elts kk tpos) (.Call (.Name "enumerate" p) [e] [] pos) (tI (kw X) (denI Φ Mu mp (.enm a))) := by
  refine ⟨fun pins s σ H R I q => (pi_en (G.toGd0.gl hg) (G.blt _ (by decide +kernel)) (pa_cons (PE.lk G.sys h) pa_nil (star_cons hn)) (star_cons hn)).run pins s σ H R I ?_⟩
  obtain ⟨ρ, xs, ρ', R0, e1, k⟩ := q
  rw [denI] at e1
  split at e1
  · rename_i r ρ1 h1
    split at e1
    · rename_i d h2
      split at e1
      · rename_i ys h3
        cases e1
        refine ⟨ρ, r, ρ1, R0, h1, fun x H1 o1 r1 => frz_one R0 o1 r1 h2 fun H2 ex o2 rp => ?_⟩
        obtain ⟨b, a', vs, rfl, hs, ra⟩ := src_of rp h3
        exact ⟨b, a', vs, rfl, hs.src, k _ _ o2 (it_en hs ra)⟩
      · cases e1
    · cases e1
  · cases e1
theorem seqs2 {d1 d2 : PyData} {ds : List (List PyData)} (h : seqs [d1, d2] = some ds) : ∃ xs ys, asSeq d1 = some xs ∧ asSeq d2 = some ys ∧ ds = [xs, ys] := by
  unfold seqs at h
  split at h
  · rename_i x xs h1 h2
    cases h
    unfold seqs at h2
    split at h2
    · rename_i y ys h3 h4
      cases h2
      cases h4
      exact ⟨x, y, h1, h3, rfl⟩
    · cases h2
  · cases h
theorem vals_two {ρ : Env} : ∀ {rs : List Res} {ds : List PyData}, valsOf ρ rs = some ds → rs.length = ds.length
  | [], ds, e => by
    cases e
    rfl
  | r :: rs, ds, e => by
    unfold valsOf at e
    split at e
    · rename_i h
      cases e
      rw [List.length_cons, List.length_cons, vals_two h]
    · cases e
theorem pi_zip2_ {X : Cx} {c : Ck} {elts : List Expr} {kk : Nat} {tpos : Pos} {as : Exs} {e e2 : Expr} {p pos : Pos} {kws : List Keyword} (G : Gd Φ Mu c X) (h : PEs Φ Mu mp X as [e, e2]) (hP : PI X (.Tuple elts kk tpos) (.Call (.Name "zip" p) [e, e2] kws pos) (iZz (kw X) (fun σ H Q => tMs (kw X) (dens Φ Mu mp as) σ H fun x H1 => Lk (Q x) H1))) : PI X (.Tuple elts kk tpos) (.Call (.Name "zip" p) [e, e2] kws pos) (tI (kw X) (denI Φ Mu mp (.zip false as))) := by
  refine ⟨fun pins s σ H R I q => hP.run pins s σ H R I ?_⟩
  obtain ⟨ρ, xs, ρ', R0, e1, k⟩ := q
  rw [denI] at e1
  split at e1
  · rename_i rs ρ1 h1
    split at e1
    · rename_i ds h2
      split at e1
      · rename_i ys h3
        split at e1
        · rename_i ts h4
          cases e1
          refine ⟨ρ, rs, ρ1, R0, h1, fun vs H1 o1 r1 nd => frz_args R0 o1 r1 nd h2 fun H2 ex o2 ra => ?_⟩
          have hl : ds.length = 2 := by rw [← vals_two h2]; exact dens_len h h1
          obtain ⟨d1, d2, rfl⟩ := len_two hl
          obtain ⟨x, y, rfl, rx, ry⟩ := rall2 ra
          obtain ⟨xs, zs, q1, q2, rfl⟩ := seqs2 h3
          obtain ⟨b1, a1, vs1, rfl, s1, ra1⟩ := src_of rx q1
          obtain ⟨b2, a2, vs2, rfl, s2, ra2⟩ := src_of ry q2
          simp only [zipL, Bool.false_and, Bool.false_eq_true, if_false] at h4
          cases h4
          refine ⟨b1, b2, a1, a2, vs1, vs2, rfl, s1.src, s2.src, k _ _ o2 ?_⟩
          rw [List.map_map]
          exact it_zz s1 ra1 s2 ra2
        · cases e1
      · cases e1
    · cases e1
  · cases e1
theorem pi_zip2 {X : Cx} {c : Ck} {elts : List Expr} {kk : Nat} {tpos : Pos} {as : Exs} {e e2 : Expr} {p pos : Pos} (G : Gd Φ Mu c X) (hg : glB c "zip" = true) (h : PEs Φ Mu mp X as [e, e2]) : PI X (.Tuple elts kk tpos) (.Call (.Name "zip" p) [e, e2] [] pos) (tI (kw X) (denI Φ Mu mp (.zip false as))) := by
  have hns := h.ns
  rw [List.all_cons, Bool.and_eq_true] at hns
  exact pi_zip2_ G h (pi_zz (G.toGd0.gl hg) (G.blt _ (by decide +kernel)) (PA.lk G.sys h.pa) (star_cons hns.1) (star_plain hns.2))
theorem pi_zip2F {X : Cx} {c : Ck} {elts : List Expr} {kk : Nat} {tpos : Pos} {as : Exs} {e e2 : Expr} {p pos : Pos} {kj : Nat} {kc kp : Pos} (G : Gd Φ Mu c X) (hg : glB c "zip" = true) (h : PEs Φ Mu mp X as [e, e2]) : PI X (.Tuple elts kk tpos) (.Call (.Name "zip" p) [e, e2] [⟨some (Str.ofString "strict"), .Constant (.bool false) kj kc, kp⟩] pos) (tI (kw X) (denI Φ Mu mp (.zip false as))) := by
  have hns := h.ns
  rw [List.all_cons, Bool.and_eq_true] at hns
  exact pi_zip2_ G h (pi_zF2 (G.toGd0.gl hg) (G.blt _ (by decide +kernel)) (PA.lk G.sys h.pa) (star_cons hns.1) (star_plain hns.2))
theorem seqs3 {d1 d2 d3 : PyData} {ds : List (List PyData)} (h : seqs [d1, d2, d3] = some ds) : ∃ xs ys zs, asSeq d1 = some xs ∧ asSeq d2 = some ys ∧ asSeq d3 = some zs ∧ ds = [xs, ys, zs] := by
  unfold seqs at h
  split at h
  · rename_i x xs h1 h2
    cases h
    obtain ⟨ys, zs, e1, e2, rfl⟩ := seqs2 h2
    exact ⟨x, ys, zs, h1, e1, e2, rfl⟩
  · cases h
theorem rall3 {K : MKx} {H : Hp} {xs : List V} {d e f : PyData} (h : RepAll K H xs [d, e, f]) : ∃ x y z, xs = [x, y, z] ∧ Rep K H x d ∧ Rep K H y e ∧ Rep K H z f := by
  cases h with
  | cons a b =>
    obtain ⟨y, z, rfl, c, d⟩ := rall2 b
    exact ⟨_, _, _, rfl, a, c, d⟩
/-- what a zip's meaning says -/
theorem zip_red {X : Cx} {st : Bool} {as : Exs} {σ : L2.St} {H : Hp} {R : L2.It → Hp → Prop} (q : tI (kw X) (denI Φ Mu mp (.zip st as)) σ H R) : tMs (kw X) (dens Φ Mu mp as) σ H fun vs H1 => Lk (fun H2 => ∃ ds ys ts, ds.length = vs.length ∧ RepAll (kw X) H2 vs ds ∧ seqs ds = some ys ∧ zipL st ys = some ts ∧ ∀ J, ItRel (kw X) J (ts.map .tuple) H2 → R J H2) H1 := by
  obtain ⟨ρ, xs, ρ', R0, e1, k⟩ := q
  rw [denI] at e1
  split at e1
  · rename_i rs ρ1 h1
    split at e1
    · rename_i ds h2
      split at e1
      · rename_i ys h3
        split at e1
        · rename_i ts h4
          cases e1
          exact ⟨ρ, rs, ρ1, R0, h1, fun vs H1 o1 r1 nd => frz_args R0 o1 r1 nd h2 fun H2 ex o2 ra => ⟨ds, ys, ts, by rw [← vals_two h2, r1.length], ra, h3, h4, fun J j => k J H2 o2 j⟩⟩
        · cases e1
      · cases e1
    · cases e1
  · cases e1
theorem pi_zipS2 {X : Cx} {c : Ck} {elts : List Expr} {kk j : Nat} {tpos kc kp : Pos} {as : Exs} {e e2 : Expr} {p pos : Pos} (G : Gd Φ Mu c X) (hg : glB c "zip" = true) (h : PEs Φ Mu mp X as [e, e2]) :
    PI X (.Tuple elts kk tpos) (.Call (.Name "zip" p) [e, e2] [⟨some (Str.ofString "strict"), .Constant (.bool true) j kc, kp⟩] pos) (tI (kw X) (denI Φ Mu mp (.zip true as))) := by
  have hns := h.ns
  rw [List.all_cons, Bool.and_eq_true] at hns
  refine ⟨fun pins s σ H R I q => (pi_zS2 (G.toGd0.gl hg) (G.blt _ (by decide +kernel)) (PA.lk G.sys h.pa) (star_cons hns.1) (star_plain hns.2)).run pins s σ H R I ?_⟩
  obtain ⟨ρ, rs, ρ1, R0, e1, k⟩ := zip_red q
  refine ⟨ρ, rs, ρ1, R0, e1, fun vs H1 o1 r1 nd => (k vs H1 o1 r1 nd).mono fun H2 ⟨ds, ys, ts, hl, ra, h3, h4, kk⟩ => ?_⟩
  have hl2 : ds.length = 2 := by rw [hl, ← r1.length]; exact dens_len h e1
  obtain ⟨d1, d2, rfl⟩ := len_two hl2
  obtain ⟨x, y, rfl, rx, ry⟩ := rall2 ra
  obtain ⟨xs, zs, q1, q2, rfl⟩ := seqs2 h3
  obtain ⟨b1, a1, vs1, rfl, s1, ra1⟩ := src_of rx q1
  obtain ⟨b2, a2, vs2, rfl, s2, ra2⟩ := src_of ry q2
  have hz : zs.length = xs.length ∧ ts = (xs.zip zs).map fun p => [p.1, p.2] := by
    unfold zipL at h4
    by_cases e : xs.length = zs.length
    · simp [e] at h4
      exact ⟨e.symm, h4.symm⟩
    · simp [e] at h4
  refine ⟨b1, b2, a1, a2, vs1, vs2, rfl, s1.src, s2.src, kk _ ?_⟩
  rw [hz.2, List.map_map]
  exact it_zS2 s1 ra1 s2 ra2 hz.1
theorem len_3z {α : Type} : ∀ {xs : List α}, xs.length = 3 → ∃ x y z, xs = [x, y, z]
  | [x, y, z], _ => ⟨x, y, z, rfl⟩
theorem pi_zip3 {X : Cx} {c : Ck} {elts : List Expr} {kk : Nat} {tpos : Pos} {as : Exs} {e e2 e3 : Expr} {p pos : Pos} (G : Gd Φ Mu c X) (hg : glB c "zip" = true) (h : PEs Φ Mu mp X as [e, e2, e3]) :
    PI X (.Tuple elts kk tpos) (.Call (.Name "zip" p) [e, e2, e3] [] pos) (tI (kw X) (denI Φ Mu mp (.zip false as))) := by
  have hns := h.ns
  rw [List.all_cons, Bool.and_eq_true] at hns
  refine ⟨fun pins s σ H R I q => (pi_z3 (G.toGd0.gl hg) (G.blt _ (by decide +kernel)) (PA.lk G.sys h.pa) (star_cons hns.1) (star_plain hns.2)).run pins s σ H R I ?_⟩
  obtain ⟨ρ, rs, ρ1, R0, e1, k⟩ := zip_red q
  refine ⟨ρ, rs, ρ1, R0, e1, fun vs H1 o1 r1 nd => (k vs H1 o1 r1 nd).mono fun H2 ⟨ds, ys, ts, hl, ra, h3, h4, kk⟩ => ?_⟩
  have hl2 : ds.length = 3 := by rw [hl, ← r1.length]; exact dens_len h e1
  obtain ⟨d1, d2, d3, rfl⟩ := len_3z hl2
  obtain ⟨x, y, z, rfl, rx, ry, rz⟩ := rall3 ra
  obtain ⟨xs, zs, ws, q1, q2, q3, rfl⟩ := seqs3 h3
  obtain ⟨b1, a1, vs1, rfl, s1, ra1⟩ := src_of rx q1
  obtain ⟨b2, a2, vs2, rfl, s2, ra2⟩ := src_of ry q2
  obtain ⟨b3, a3, vs3, rfl, s3, ra3⟩ := src_of rz q3
  simp only [zipL, Bool.false_and, Bool.false_eq_true, if_false] at h4
  cases h4
  refine ⟨b1, b2, b3, a1, a2, a3, vs1, vs2, vs3, rfl, s1.src, s2.src, s3.src, kk _ ?_⟩
  rw [List.map_map]
  exact it_z3 s1 ra1 s2 ra2 s3 ra3
theorem pi_zipS3 {X : Cx} {c : Ck} {elts : List Expr} {kk j : Nat} {tpos kc kp : Pos} {as : Exs} {e e2 e3 : Expr} {p pos : Pos} (G : Gd Φ Mu c X) (hg : glB c "zip" = true) (h : PEs Φ Mu mp X as [e, e2, e3]) :
    PI X (.Tuple elts kk tpos) (.Call (.Name "zip" p) [e, e2, e3] [⟨some (Str.ofString "strict"), .Constant (.bool true) j kc, kp⟩] pos) (tI (kw X) (denI Φ Mu mp (.zip true as))) := by
  have hns := h.ns
  rw [List.all_cons, Bool.and_eq_true] at hns
  refine ⟨fun pins s σ H R I q => (pi_zS3 (G.toGd0.gl hg) (G.blt _ (by decide +kernel)) (PA.lk G.sys h.pa) (star_cons hns.1) (star_plain hns.2)).run pins s σ H R I ?_⟩
  obtain ⟨ρ, rs, ρ1, R0, e1, k⟩ := zip_red q
  refine ⟨ρ, rs, ρ1, R0, e1, fun vs H1 o1 r1 nd => (k vs H1 o1 r1 nd).mono fun H2 ⟨ds, ys, ts, hl, ra, h3, h4, kk⟩ => ?_⟩
  have hl2 : ds.length = 3 := by rw [hl, ← r1.length]; exact dens_len h e1
  obtain ⟨d1, d2, d3, rfl⟩ := len_3z hl2
  obtain ⟨x, y, z, rfl, rx, ry, rz⟩ := rall3 ra
  obtain ⟨xs, zs, ws, q1, q2, q3, rfl⟩ := seqs3 h3
  obtain ⟨b1, a1, vs1, rfl, s1, ra1⟩ := src_of rx q1
  obtain ⟨b2, a2, vs2, rfl, s2, ra2⟩ := src_of ry q2
  obtain ⟨b3, a3, vs3, rfl, s3, ra3⟩ := src_of rz q3
  have hz : zs.length = xs.length ∧ ws.length = xs.length ∧ ts = (xs.zip (zs.zip ws)).map fun p => [p.1, p.2.1, p.2.2] := by
    unfold zipL at h4
    by_cases e : xs.length = zs.length
    · by_cases e2 : zs.length = ws.length
      · simp [e, e2] at h4
        exact ⟨e.symm, by rw [e, e2], h4.symm⟩
      · simp [e, e2] at h4
    · simp [e] at h4
  refine ⟨b1, b2, b3, a1, a2, a3, vs1, vs2, vs3, rfl, s1.src, s2.src, s3.src, kk _ ?_⟩
  rw [hz.2.2, List.map_map]
  exact it_zS3 s1 ra1 s2 ra2 s3 ra3 hz.1 hz.2.1
end
end MP

/-! MP: the check of expressions is sound. -/
namespace MP
open PySem PySem.Spec PyProof.Rows L2
section
variable {Φ : Ph} {Mu : Nat → List Bool} {mp : List Nat}
theorem mt_of {X : Cx} (m : Mt) : ∃ id, Slot "list" (Str.ofString (methN m)) id ∧ typeOf (.builtin id) = pure (.type "method_descriptor") ∧ MtR X id (mV (kw X) m) := by
  cases m with
  | append => exact ⟨_, PySem.F.slot_list_append, PySem.F.type_list_append, mv_append⟩
  | extend => exact ⟨_, PySem.F.slot_list_extend, PySem.F.type_list_extend, mv_extend⟩
  | insert => exact ⟨_, PySem.F.slot_list_insert, PySem.F.type_list_insert, mv_insert⟩
  | pop => exact ⟨_, PySem.F.slot_list_pop, PySem.F.type_list_pop, mv_pop⟩
  | clear => exact ⟨_, PySem.F.slot_list_clear, PySem.F.type_list_clear, mv_clear⟩
theorem den_and {es : Exs} : den Φ Mu mp (.and es) = tB (denB Φ Mu mp true es) := by
  funext ρ
  rw [den]
  rfl
theorem den_or {es : Exs} : den Φ Mu mp (.or es) = tB (denB Φ Mu mp false es) := by
  funext ρ
  rw [den]
  rfl
/-- what is shown of clauses -/
structure ClOk (ci cb : Ck) (own : List Nat) (cl : Cl) (gs : List Comprehension) : Prop where
  first : ∃ tg iter es rest, gs = ⟨tg, iter, es, 0⟩ :: rest ∧ notSet iter = true ∧ ∀ X, Gd Φ Mu ci X → PI X tg iter (tI (kw X) (denF Φ Mu mp cl))
  loop : ∀ (B : Cx) (elt : Expr) (gens : List Comprehension) (scope : Scope) (pos : Pos) (k : Nat) (De : DE) (D : Addr), Gd Φ Mu cb B → (∀ e s, ¬ B.xe e s) → gens.drop k = gs → PE B elt (tM (kw B) De) → ∀ tg, (∃ iter es rest, gs = ⟨tg, iter, es, 0⟩ :: rest) →
    LpOk B (.ListComp elt gens scope pos) k D own tg (denL Φ Mu mp (kElt De) cl)
mutual
theorem se_ok : ∀ {a : Ex} {e : Expr} {c : Ck} {X : Cx}, Gd Φ Mu c X → chkE c a e = true → SE Φ Mu mp X e a
  | .var i, e, c, X, G, h => by
    cases e <;> try (cases h; done)
    rename_i x p
    have h1 : (decide (c.N[i]? = some x) && (visB c x && plN x)) = true := h
    simp only [Bool.and_eq_true, decide_eq_true_eq] at h1
    obtain ⟨p1, p2⟩ := plN_of h1.2.2
    exact se_of (pe_v G.toGd0 h1.1 h1.2.1 p1 p2) fun _ => rfl
  | .cst k, e, c, X, G, h => by
    unfold chkE at h
    split at h
    · exact se_of (pe_cs h) fun _ => rfl
    · split at h
      · exact se_of pe_emp fun _ => rfl
      · cases h
    · cases h
  | .glb n d, e, c, X, G, h => by
    cases e <;> try (cases h; done)
    rename_i x p
    have h1 : (decide (x = Str.ofString n) && (glB c x && (plN x && c.gl.any fun p => decide (p.1 = x) && eqP p.2 d))) = true := h
    simp only [Bool.and_eq_true, decide_eq_true_eq, List.any_eq_true] at h1
    obtain ⟨rfl, h2, h3, ⟨y, z⟩, h4, h5, h6⟩ := h1
    have h5 : y = _ := h5
    subst h5
    have h6 := eqP_eq h6
    have h6 : z = _ := h6
    subst h6
    exact se_of (pe_g G h4 h2 (plN_of h3).1) fun _ => rfl
  | .op o es, e, c, X, G, h => by
    have h1 : chkO c o e (fun xs => chkEs c es xs) = true := h
    exact se_op G (fun xs hx => ses_ok G hx) h1
  | .and es, e, c, X, G, h => by
    cases e <;> try (cases h; done)
    rename_i op xs p
    cases op <;> try (cases h; done)
    cases xs with
    | nil => cases h
    | cons x xs =>
      have hp := ses_ok (es := x :: xs) G (show chkEs c es (x :: xs) = true from h)
      show PE _ _ _ ∧ PT _ _ _
      rw [den_and, bT_tB]
      exact ⟨hp.andE, hp.andT.pt⟩
  | .or es, e, c, X, G, h => by
    cases e <;> try (cases h; done)
    rename_i op xs p
    cases op <;> try (cases h; done)
    cases xs with
    | nil => cases h
    | cons x xs =>
      have hp := ses_ok (es := x :: xs) G (show chkEs c es (x :: xs) = true from h)
      show PE _ _ _ ∧ PT _ _ _
      rw [den_or, bT_tB]
      exact ⟨hp.orE, hp.orT.pt⟩
  | .chain o1 o2 a b d, e, c, X, G, h => by
    unfold chkE at h
    split at h
    · rename_i l p q m r pos
      simp only [Bool.and_eq_true, decide_eq_true_eq, Bool.not_eq_true'] at h
      obtain ⟨⟨⟨⟨⟨e1, e2⟩, hm⟩, h1⟩, h2⟩, h3⟩ := h
      subst e1 e2
      exact se_chain G hm (se_ok G h1).1 (se_ok G h2).1 (se_ok G h3).1
    · cases h
  | .ite t a b, e, c, X, G, h => by
    cases e <;> try (cases h; done)
    rename_i x y z p
    have h1 : (chkE c t x && chkE c a y && chkE c b z) = true := h
    simp only [Bool.and_eq_true] at h1
    have ha := se_ok G h1.1.2
    have hb := se_ok G h1.2
    exact pe_ife (se_ok G h1.1.1).2 ha.1 hb.1 ha.2 hb.2
  | .slice a lo hi st, e, c, X, G, h => by
    unfold chkE at h
    split at h
    · rename_i l el eh p2 pos
      simp only [Bool.and_eq_true] at h
      obtain ⟨⟨h1, h2⟩, h3⟩ := h
      have part : ∀ {as : Exs} {oe : Option Expr}, (∀ es, chkEs c as es = true → PEs Φ Mu mp X as es) → (match oe with | none => chkEs c as [] | some x => chkEs c as [x]) = true → POk Φ Mu mp X as oe := fun {as oe} hk hq => by
        cases oe with
        | none =>
          have := hk [] hq
          cases this
          exact .none
        | some x =>
          have := hk [x] hq
          cases this with
          | cons _ g _ r =>
            cases r
            exact .some g
      exact se_of (pe_sl (se_ok G h1).1 (part (fun es hx => ses_ok G hx) h2) (part (fun es hx => ses_ok G hx) h3)) fun _ => rfl
    · simp only [Bool.and_eq_true, decide_eq_true_eq] at h
      obtain ⟨⟨h1, h2⟩, h3, h4⟩ := h
      subst h1
      have e3 : lo = .nil := by cases lo <;> first | rfl | cases h3
      have e4 : hi = .nil := by cases hi <;> first | rfl | cases h4
      subst e3 e4
      exact se_of (pe_back (se_ok G h2).1) fun _ => rfl
    · cases h
  | .call f es, e, c, X, G, h => by
    unfold chkE at h
    split at h
    · simp only [Bool.and_eq_true, decide_eq_true_eq] at h
      obtain ⟨⟨h1, h2, h3⟩, h4⟩ := h
      exact se_of (pe_fn G h1 h2 (plN_of h3).1 (ses_ok G h4)) fun _ => rfl
    · cases h
  | .meth m i es, e, c, X, G, h => by
    unfold chkE at h
    split at h
    · simp only [Bool.and_eq_true, decide_eq_true_eq] at h
      obtain ⟨⟨⟨⟨⟨h1, h2, h3⟩, h4⟩, h5⟩, h6⟩, h7⟩ := h
      subst h4
      obtain ⟨id, q1, q2, q3⟩ := mt_of (X := X) m
      obtain ⟨p1, p2⟩ := plN_of h3
      exact se_of (pe_mt G h1 h2 p1 p2 q1 q2 q3 h5 h6 (ses_ok G h7)) fun _ => rfl
    · cases h
  | .comp own elt cl, e, c, X, G, h => by
    cases e <;> try (cases h; done)
    rename_i ee gens scope pos
    have h1 : (blkC c.N c.sc scope (ownP c own) && chkE (blkK c scope) elt ee && chkCl c (blkK c scope) own cl gens) = true := h
    simp only [Bool.and_eq_true] at h1
    obtain ⟨⟨hb, he⟩, hcl⟩ := h1
    have ok := scl_ok (cl := cl) hcl
    have bo : BlkOk X.N X.env.scope scope (ownP c own) := by
      rw [G.n, G.sc]
      exact blkOk_by hb
    refine se_of ⟨fun pins s σ H Q I q => ?_⟩ fun _ => rfl
    obtain ⟨ρ, r, ρ', R, e1, k⟩ := q
    obtain ⟨tg, iter, es, rest, rfl, hns, hpi⟩ := ok.first
    rw [den] at e1
    split at e1
    · rename_i xs ρ1 h1
      split at e1
      · rename_i ds ρ2 h2
        split at e1
        · rename_i hz
          cases e1
          rw [eval_ListComp]
          refine comp_run (own := ownP c own) (use := none) (DI := denF Φ Mu mp cl) (F := denL Φ Mu mp (kElt (den Φ Mu mp elt)) cl) (Q := Q) (Qf := EP X pins σ Q) G.calm G.nd I (hpi X G) bo (fun s H C cl' fp D => by rw [ownP_snd]; exact ok.loop _ ee _ scope pos 0 _ D (G.blk scope s H C cl' fp) (fun _ _ z => z) rfl (se_ok (G.blk scope s H C cl' fp) he).1 tg ⟨iter, es, rest, rfl⟩) (fsi hns _) R h1
            (by rw [ownP_snd]; exact h2) hz (fun D H' o rr => k (.ref D) H' (by rw [ownP_snd] at o; exact o) rr) fun D C s' m H' I' q hn f => ⟨m, hn, fun h'' sb => ?_⟩
          obtain ⟨f0, f1, f2, f3, f4, f5⟩ := f
          exact ⟨.ref D, H', I'.turned (t' := s'.toks) (fun b o hb e => (sb.2 b hb).trans e) f0 f1 f3 f4 f5, rfl, q⟩
        · cases e1
      · cases e1
    · cases e1
theorem ses_ok : ∀ {as : Exs} {es : List Expr} {c : Ck} {X : Cx}, Gd Φ Mu c X → chkEs c as es = true → PEs Φ Mu mp X as es
  | .nil, [], c, X, G, h => .nil
  | .nil, _ :: _, c, X, G, h => by cases h
  | .cons _ _, [], c, X, G, h => by cases h
  | .cons a r, e :: es, c, X, G, h => by
    have h1 : (ns e && chkE c a e && chkEs c r es) = true := h
    simp only [Bool.and_eq_true] at h1
    have h2 := se_ok G h1.1.2
    exact .cons h1.1.1 h2.1 h2.2 (ses_ok G h1.2)
theorem si_ok : ∀ {i : It} {tg e : Expr} {c : Ck} {X : Cx}, Gd Φ Mu c X → chkI c i tg e = true → PI X tg e (tI (kw X) (denI Φ Mu mp i))
  | .val a, tg, e, c, X, G, h => by
    have h1 : chkE c a e = true := by
      unfold chkI at h
      exact h
    exact pi_val G.sys (se_ok G h1).1
  | .rng as, tg, e, c, X, G, h => by
    unfold chkI at h
    split at h
    · simp only [Bool.and_eq_true, decide_eq_true_eq, Bool.or_eq_true, beq_iff_eq] at h
      obtain ⟨⟨⟨e1, hg⟩, hl⟩, h1⟩ := h
      subst e1
      exact pi_rng G hg hl (ses_ok G h1)
    · cases h
  | .enm a, tg, e, c, X, G, h => by
    cases tg <;> try (cases h; done)
    unfold chkI at h
    split at h
    · simp only [Bool.and_eq_true, decide_eq_true_eq] at h
      obtain ⟨⟨⟨e1, hg⟩, hn⟩, h1⟩ := h
      subst e1
      exact pi_enm G hg hn (se_ok G h1).1
    · cases h
  | .zip st as, tg, e, c, X, G, h => by
    cases tg <;> try (cases h; done)
    unfold chkI at h
    split at h
    · simp only [Bool.and_eq_true, decide_eq_true_eq] at h
      obtain ⟨⟨⟨e1, hg⟩, h1⟩, hk⟩ := h
      subst e1
      rw [Bool.or_eq_true] at hk
      rcases hk with hk | hk
      · rcases kwZ_of hk with ⟨rfl, rfl⟩ | ⟨j, p, q, rfl, rfl⟩
        · exact pi_zip2 G hg (ses_ok G h1)
        · exact pi_zipS2 G hg (ses_ok G h1)
      · obtain ⟨j, p, q, rfl, rfl⟩ := kwF_of hk
        exact pi_zip2F G hg (ses_ok G h1)
    · simp only [Bool.and_eq_true, decide_eq_true_eq] at h
      obtain ⟨⟨⟨e1, hg⟩, h1⟩, hk⟩ := h
      subst e1
      rcases kwZ_of hk with ⟨rfl, rfl⟩ | ⟨j, p, q, rfl, rfl⟩
      · exact pi_zip3 G hg (ses_ok G h1)
      · exact pi_zipS3 G hg (ses_ok G h1)
    · cases h
theorem scl_ok : ∀ {cl : Cl} {gs : List Comprehension} {ci cb : Ck} {own : List Nat}, chkCl ci cb own cl gs = true → ClOk (Φ := Φ) (Mu := Mu) (mp := mp) ci cb own cl gs
  | .last t i ifs, gs, ci, cb, own, h => by
    unfold chkCl at h
    split at h
    · rename_i tg iter es a
      simp only [Bool.and_eq_true, decide_eq_true_eq, List.all_eq_true, List.contains_eq_mem] at h
      obtain ⟨⟨⟨⟨⟨ha, hs⟩, hi⟩, ht⟩, ho⟩, hf⟩ := h
      subst ha
      refine ⟨⟨tg, iter, es, [], rfl, hs, fun X G => ?_⟩, fun B elt gens scope pos k De D G hx hg he tg' hh => ?_⟩
      · have e1 : denF Φ Mu mp (.last t i ifs) = denI Φ Mu mp i := by
          funext ρ
          rw [denF]
        rw [e1]
        exact si_ok G hi
      · obtain ⟨iter', es', rest', e1⟩ := hh
        cases e1
        have hk : gens[k]? = some ⟨tg, iter, es, 0⟩ := by rw [← List.head?_drop, hg]; rfl
        have hk1 : gens[k + 1]? = none := by
          have : (gens.drop k).length = 1 := by rw [hg]; rfl
          rw [List.length_drop] at this
          exact List.getElem?_eq_none (by omega)
        have e2 : denL Φ Mu mp (kElt De) (.last t i ifs) = loopC (cBody mp t (denB Φ Mu mp true ifs) (kElt De)) := by
          funext xs ρ
          rw [denL]
        rw [e2]
        refine lp_ok (ifs := es) (Act := fun R G s => wpAny (model B.prog B.w) B.A (do let _ ← call (.builtin "list.append") [.ref D, ← eval elt B.env]) (fun _ s5 => G s5) (EndsIn R B.prog B.w B.A B.env) s) hx G.calm (fun it R I turn n s h => loop_last hk hk1 I turn n h) (pg_of G.toGd0 ht) ho (ses_ok G hf).pts fun R => in_elt G.sys hx he _
    · cases h
  | .more t i ifs r, gs, ci, cb, own, h => by
    unfold chkCl at h
    split at h
    · rename_i tg iter es a g
      simp only [Bool.and_eq_true, decide_eq_true_eq, List.all_eq_true, List.contains_eq_mem] at h
      obtain ⟨⟨⟨⟨⟨⟨ha, hs⟩, hi⟩, ht⟩, ho⟩, hf⟩, hr⟩ := h
      subst ha
      have okr := scl_ok (cl := r) hr
      refine ⟨⟨tg, iter, es, g, rfl, hs, fun X G => ?_⟩, fun B elt gens scope pos k De D G hx hg he tg' hh => ?_⟩
      · have e1 : denF Φ Mu mp (.more t i ifs r) = denI Φ Mu mp i := by
          funext ρ
          rw [denF]
        rw [e1]
        exact si_ok G hi
      · obtain ⟨iter', es', rest', e1⟩ := hh
        cases e1
        obtain ⟨tg1, iter1, es1, rest1, rfl, hs1, hpi1⟩ := okr.first
        have hk : gens[k]? = some ⟨tg, iter, es, 0⟩ := by rw [← List.head?_drop, hg]; rfl
        have hd : gens.drop (k + 1) = ⟨tg1, iter1, es1, 0⟩ :: rest1 := by rw [← List.drop_drop, hg]; rfl
        have hk1 : gens[k + 1]? = some ⟨tg1, iter1, es1, 0⟩ := by rw [← List.head?_drop, hd]; rfl
        have e2 : denL Φ Mu mp (kElt De) (.more t i ifs r) = loopC (cBody mp t (denB Φ Mu mp true ifs) (fun ρ => match denF Φ Mu mp r ρ with | some (ys, ρ1) => denL Φ Mu mp (kElt De) r ys ρ1 | none => none)) := by
          funext xs ρ
          rw [denL] <;> rfl
        rw [e2]
        have lp := okr.loop B elt gens scope pos (k + 1) De D G hx hd he tg1 ⟨iter1, es1, rest1, rfl⟩
        refine lp_ok (ifs := es) (Act := fun R G s => wpAny (model B.prog B.w) B.A (eval iter1 B.env) (fun x s5 => wpAny (model B.prog B.w) B.A (pyIter x) (fun it1 s6 =>
          codeAny (model B.prog B.w) B.A (.compStart (.ListComp elt gens scope pos) (k + 1) it1 (.ref D) B.env) (fun r s' => match r with | .ok _ => G s' | .error _ => False) s6) (EndsIn R B.prog B.w B.A B.env) s5) (EndsIn R B.prog B.w B.A B.env) s)
          hx G.calm (fun it R I turn n s h => loop_more hk hk1 (fsi hs1 _) I turn n h) (pg_of G.toGd0 ht) ho (ses_ok G hf).pts fun R => in_more hx hk1 (hpi1 B G) lp _
    · cases h
end
end
end MP

/-! MP: statements. -/
namespace MP
open PySem PySem.Spec PyProof.Rows L2

/-- what a statement leaves -/
structure Stw (K : MKx) (mp : List Nat) (σ : L2.St) (ρ : Env) (H : Hp) (σ' : L2.St) (ρ' : Env) (H' : Hp) : Prop where
  env : EnvRel K σ' ρ' H'
  keep : Keeps σ ρ H H'
  less : ∀ a, Owned σ' ρ' a → Owned σ ρ a ∨ H a = none
  there : ∀ a o, H a = some o → ∃ o', H' a = some o'
  fr : ∀ j ∈ mp, σ'[j]? = σ[j]?
section
variable {K : MKx} {mp : List Nat} {σ σ1 σ2 σ' : L2.St} {ρ ρ1 ρ2 ρ' : Env} {H H1 H2 H' : Hp}
theorem Stp.w (a : Stp K σ ρ H σ' ρ' H') (f : ∀ j ∈ mp, σ'[j]? = σ[j]?) : Stw K mp σ ρ H σ' ρ' H' := ⟨a.env, a.keep, fun b h => .inl (a.less b h), a.there, f⟩
theorem Out.w (a : Out K σ ρ H ρ' H') : Stw K mp σ ρ H σ ρ' H' := Stp.w a fun _ _ => rfl
theorem Stw.back {p : Addr} (a : Stw K mp σ ρ H σ1 ρ1 H1) (h : H1 p = none ∨ Owned σ1 ρ1 p) : H p = none ∨ Owned σ ρ p := by
  rcases h with h | h
  · left
    cases q : H p with
    | none => rfl
    | some o =>
      obtain ⟨o', z⟩ := a.there p o q
      rw [h] at z
      cases z
  · exact (a.less p h).symm
theorem Stw.trans (a : Stw K mp σ ρ H σ1 ρ1 H1) (b : Stw K mp σ1 ρ1 H1 σ2 ρ2 H2) : Stw K mp σ ρ H σ2 ρ2 H2 :=
  ⟨b.env, fun c o e n => b.keep c o (a.keep c o e n) fun z => (a.less c z).elim n fun w => (by rw [e] at w; cases w), fun c h => (a.back (b.less c h).symm).symm,
    fun c o e => let ⟨o', e'⟩ := a.there c o e; b.there c o' e', fun j hj => (b.fr j hj).trans (a.fr j hj)⟩
/-- what is returned -/
def RetR (K : MKx) (mp : List Nat) (σ : L2.St) (ρ : Env) (H : Hp) (σ' : L2.St) (ρ' : Env) (H' : Hp) (r : Bool × PyData) (x : V) : Prop :=
  if r.1 = true then ∃ p l, x = .ref p ∧ r.2 = .list l ∧ OwnL K H' p l ∧ (H p = none ∨ Owned σ ρ p) ∧ ∀ j ∈ mp, (∃ e, ρ'[j]? = some (some (true, e))) → σ'[j]? ≠ some (some (V.ref p)) else Rep K H' x r.2
theorem RetR.early {r : Bool × PyData} {x : V} (a : Stw K mp σ ρ H σ1 ρ1 H1) (h : RetR K mp σ1 ρ1 H1 σ' ρ' H' r x) : RetR K mp σ ρ H σ' ρ' H' r x := by
  unfold RetR at h ⊢
  split
  · rename_i hr
    rw [if_pos hr] at h
    obtain ⟨p, l, h1, h2, h3, h4, h5⟩ := h
    exact ⟨p, l, h1, h2, h3, a.back h4, h5⟩
  · rename_i hr
    rw [if_neg hr] at h
    exact h
/-- the end that is wanted -/
def EndS (K : MKx) (mp : List Nat) (σ : L2.St) (ρ : Env) (H : Hp) (ρ' : Env) (Dn : Ends) : Fl → Prop
  | .nx => ∀ σ' H', Stw K mp σ ρ H σ' ρ' H' → Dn.nx σ' H'
  | .br => ∀ σ' H', Stw K mp σ ρ H σ' ρ' H' → Dn.bk σ' H'
  | .ct => ∀ σ' H', Stw K mp σ ρ H σ' ρ' H' → Dn.ct σ' H'
  | .rt r => ∀ σ' H' x, Stw K mp σ ρ H σ' ρ' H' → RetR K mp σ ρ H σ' ρ' H' r x → Dn.rt x H'
def tS (K : MKx) (mp : List Nat) (D : Env → Option (Fl × Env)) : TS := fun Dn σ H => ∃ ρ f ρ', EnvRel K σ ρ H ∧ D ρ = some (f, ρ') ∧ EndS K mp σ ρ H ρ' Dn f
theorem EndS.late {f : Fl} {Dn : Ends} (h : EndS K mp σ ρ H ρ' Dn f) (a : Stw K mp σ ρ H σ1 ρ1 H1) : EndS K mp σ1 ρ1 H1 ρ' Dn f := by
  cases f with
  | nx => exact fun σ' H' s => h σ' H' (a.trans s)
  | br => exact fun σ' H' s => h σ' H' (a.trans s)
  | ct => exact fun σ' H' s => h σ' H' (a.trans s)
  | rt r => exact fun σ' H' x s rr => h σ' H' x (a.trans s) (rr.early a)
/-- another wish for what follows -/
theorem EndS.nx {f : Fl} {Dn : Ends} {N : L2.St → Hp → Prop} (h : EndS K mp σ ρ H ρ' Dn f) (hn : f = .nx → ∀ σ' H', Stw K mp σ ρ H σ' ρ' H' → N σ' H') : EndS K mp σ ρ H ρ' { Dn with nx := N } f := by
  cases f with
  | nx => exact hn rfl
  | br => exact h
  | ct => exact h
  | rt r => exact h
end
section
variable {X : Cx} {mp : List Nat} {Φ : Ph} {Mu : Nat → List Bool} {c : Ck}
theorem pss_nil_ok : PSs X [] (tS (kw X) mp (execs Φ Mu mp .nil)) := PSs.imp pss_nil fun Dn σ H ⟨ρ, f, ρ', R, e, k⟩ => by
  rw [execs] at e
  cases e
  exact k σ H (Out.w (Out.refl R))
theorem pss_cons_ok {s : St} {r : Sts} {st : Stmt} {sts : List Stmt} (h : PS X st (tS (kw X) mp (exec Φ Mu mp s))) (hr : PSs X sts (tS (kw X) mp (execs Φ Mu mp r))) : PSs X (st :: sts) (tS (kw X) mp (execs Φ Mu mp (.cons s r))) := PSs.imp (pss_cons h hr) fun Dn σ H ⟨ρ, f, ρ', R, e, k⟩ => by
  rw [execs] at e
  cases h1 : exec Φ Mu mp s ρ with
  | none => simp [h1] at e
  | some y =>
    obtain ⟨f1, ρ1⟩ := y
    simp only [h1] at e
    cases f1 with
    | nx => exact ⟨ρ, .nx, ρ1, R, h1, fun σ1 H1 s1 => ⟨ρ1, f, ρ', s1.env, e, k.late s1⟩⟩
    | br =>
      cases e
      exact ⟨ρ, .br, _, R, h1, k⟩
    | ct =>
      cases e
      exact ⟨ρ, .ct, _, R, h1, k⟩
    | rt v =>
      cases e
      exact ⟨ρ, .rt v, _, R, h1, k⟩
theorem ps_pass_ok {pos : Pos} : PS X (.Pass pos) (tS (kw X) mp (exec Φ Mu mp .pass)) := PS.imp ps_pass fun Dn σ H ⟨ρ, f, ρ', R, e, k⟩ => by
  rw [exec] at e
  cases e
  exact k σ H (Out.w (Out.refl R))
theorem ps_brk_ok {pos : Pos} : PS X (.Break pos) (tS (kw X) mp (exec Φ Mu mp .brk)) := PS.imp ps_break fun Dn σ H ⟨ρ, f, ρ', R, e, k⟩ => by
  rw [exec] at e
  cases e
  exact k σ H (Out.w (Out.refl R))
theorem ps_ct_ok {pos : Pos} : PS X (.Continue pos) (tS (kw X) mp (exec Φ Mu mp .cont)) := PS.imp ps_continue fun Dn σ H ⟨ρ, f, ρ', R, e, k⟩ => by
  rw [exec] at e
  cases e
  exact k σ H (Out.w (Out.refl R))
/-- an expression by itself -/
def notComp : Expr → Bool
  | .ListComp _ _ _ _ => false
  | .SetComp _ _ _ _ => false
  | .DictComp _ _ _ _ _ => false
  | _ => true
theorem sw_no {e : Expr} (h : notComp e = true) (t : Option Expr) (l : Nat) (env : PySem.Env) : swapsWith e t l env = pure false := by
  cases e <;> first | rfl | cases h
theorem ps_exp_ok {a : Ex} {e : Expr} {pos : Pos} (hn : notComp e = true) (h : PE X e (tM (kw X) (den Φ Mu mp a))) : PS X (.Expr e pos) (tS (kw X) mp (exec Φ Mu mp (.exp a))) := PS.imp (ps_expr h (sw_no hn _ _ _)) fun Dn σ H ⟨ρ, f, ρ', R, e1, k⟩ => by
  rw [exec] at e1
  split at e1
  · rename_i r ρ1 h1
    cases e1
    exact ⟨ρ, r, _, R, h1, fun x H1 o1 _ => k σ H1 (Out.w o1)⟩
  · cases e1
theorem ps_ret_ok {a : Ex} {e : Expr} {pos : Pos} (h : PE X e (tM (kw X) (den Φ Mu mp a))) : PS X (.Return (some e) pos) (tS (kw X) mp (exec Φ Mu mp (.ret a))) := PS.imp (ps_ret h) fun Dn σ H ⟨ρ, f, ρ', R, e1, k⟩ => by
  rw [exec] at e1
  split at e1
  · rename_i d ρ1 h1
    cases e1
    exact ⟨ρ, _, _, R, h1, fun x H1 o1 r1 => k σ H1 x (Out.w o1) ((if_neg Bool.false_ne_true).mpr r1)⟩
  · rename_i d ρ1 h1
    cases e1
    refine ⟨ρ, _, _, R, h1, fun x H1 o1 r1 => k σ H1 x (Out.w o1) ((if_pos rfl).mpr ?_)⟩
    obtain ⟨p, l, h2, h3, h4, h5⟩ := r1
    refine ⟨p, l, h2, h3, h4, .inl h5, fun j _ ⟨e, he⟩ hs => ?_⟩
    obtain ⟨ys, q⟩ := R.owned (o1.less p ⟨j, e, he, hs⟩)
    rw [h5] at q
    cases q
  · rename_i i ρ1 h1
    split at e1
    · cases e1
    · rename_i hc
      split at e1
      · rename_i d h2
        cases e1
        refine ⟨ρ, _, _, R, h1, fun x H1 o1 r1 => k σ H1 x (Out.w o1) ((if_pos rfl).mpr ?_)⟩
        obtain ⟨p, rfl, hs⟩ := r1
        have hi := valOf_bor h2
        obtain ⟨p', l, g1, g2, g3⟩ := o1.env.own i d hi
        rw [hs] at g1
        cases g1
        refine ⟨p, l, rfl, g2, g3, .inr (o1.less p ⟨i, d, hi, hs⟩), fun j hj ⟨e, he⟩ hs' => hc ?_⟩
        rw [← o1.env.inj j i e d p he hi hs' hs]
        simpa using hj
      · cases e1
  · cases e1
theorem ps_ret0_ok {pos : Pos} : PS X (.Return none pos) (tS (kw X) mp (exec Φ Mu mp .ret0)) := PS.imp ps_retN fun Dn σ H ⟨ρ, f, ρ', R, e, k⟩ => by
  rw [exec] at e
  cases e
  exact k σ H .non (Out.w (Out.refl R)) ((if_neg Bool.false_ne_true).mpr .non)
theorem ps_if_ok {a : Ex} {e : Expr} {p q : Sts} {ps qs : List Stmt} {pos : Pos} (h : PT X e (tT (kw X) (bT (den Φ Mu mp a)))) (hp : PSs X ps (tS (kw X) mp (execs Φ Mu mp p))) (hq : PSs X qs (tS (kw X) mp (execs Φ Mu mp q))) : PS X (.If e ps qs pos) (tS (kw X) mp (exec Φ Mu mp (.ite a p q))) := PS.imp (ps_if h hp hq) fun Dn σ H ⟨ρ, f, ρ', R, e1, k⟩ => by
  rw [exec] at e1
  split at e1
  · rename_i r ρ1 h1
    split at e1
    · rename_i h2
      exact ⟨ρ, true, ρ1, R, by unfold bT; rw [h1]; simp only [h2], fun H1 o1 => show tS _ _ _ _ _ _ from ⟨ρ1, f, ρ', o1.env, e1, k.late (Out.w o1)⟩⟩
    · rename_i h2
      exact ⟨ρ, false, ρ1, R, by unfold bT; rw [h1]; simp only [h2], fun H1 o1 => show tS _ _ _ _ _ _ from ⟨ρ1, f, ρ', o1.env, e1, k.late (Out.w o1)⟩⟩
    · cases e1
  · cases e1
/-! ### loops -/
mutual
theorem mp_of_asgT : ∀ {t : Tg} {d : PyData} {ρ ρ' : Env}, asgT mp t d ρ = some ρ' → ∀ i ∈ t.slots, i ∉ mp
  | .var j, d, ρ, ρ', e, i, hi => by
    unfold asgT at e
    split at e
    · cases e
    · rename_i hc
      have : i = j := List.mem_singleton.mp hi
      subst this
      intro z
      apply hc
      simp [z]
  | .tup ts, d, ρ, ρ', e, i, hi => by
    unfold asgT at e
    split at e
    · exact mp_of_asgTs e i hi
    · exact mp_of_asgTs e i hi
    · cases e
theorem mp_of_asgTs : ∀ {t : Tgs} {d : List PyData} {ρ ρ' : Env}, asgTs mp t d ρ = some ρ' → ∀ i ∈ t.slots, i ∉ mp
  | .nil, _, _, _, _, i, hi => by cases hi
  | .cons t r, [], _, _, e, _, _ => by cases e
  | .cons t r, x :: xs, ρ, ρ', e, i, hi => by
    unfold asgTs at e
    split at e
    · rename_i ρ1 h1
      rcases List.mem_append.mp (show i ∈ t.slots ++ r.slots from hi) with z | z
      · exact mp_of_asgT h1 i z
      · exact mp_of_asgTs e i z
    · cases e
end
theorem ps_for_ok {t : Tg} {tg iter : Expr} {i : It} {b : Sts} {body : List Stmt} {pos : Pos} (hx : X.xe = fun _ _ => False) (hc : X.calm = true) (hn : notSet iter = true) (hi : PI X tg iter (tI (kw X) (denI Φ Mu mp i))) (hg : PG X tg (gT (kw X) mp t)) (hb : PSs X body (tS (kw X) mp (execs Φ Mu mp b))) :
    PS X (.For tg iter body [] pos) (tS (kw X) mp (exec Φ Mu mp (.for t i b))) := PS.imp (ps_for (by rw [hx]; exact PassesOwn.never) hc hi hg hb (fsi hn _)) fun Dn σ H ⟨ρ, f, ρ', R, e1, k⟩ => by
  rw [exec] at e1
  split at e1
  · rename_i xs ρ1 h1
    refine ⟨ρ, xs, ρ1, R, h1, fun J H1 o1 j1 => ?_⟩
    have k1 := k.late (Out.w o1)
    refine ⟨fun n m σ' H' => n ≤ xs.length ∧ m = xs.length - n ∧ ∃ ρi, Stw (kw X) mp σ ρ1 H1 σ' ρi H' ∧ loopF (tgB mp t fun ρ => execs Φ Mu mp b ρ) (xs.drop n) ρi = some (f, ρ'), ⟨xs.length, Nat.zero_le _, by simp, ρ1, Out.w (Out.refl o1.env), by simpa using e1⟩, ?_⟩
    rintro n m σ' H' ⟨hn, rfl, ρi, S, hl⟩
    have ex : Ext H1 H' := fun a => by
      refine ⟨fun ys e => S.keep a _ e fun z => ?_, fun o u e => S.keep a _ e fun z => ?_⟩ <;>
      · obtain ⟨zs, q⟩ := o1.env.owned z
        rw [e] at q
        cases q
    obtain ⟨jg, jy, js⟩ := j1 H' ex
    by_cases hlt : n < xs.length
    · right
      refine ⟨jg n _ (List.getElem?_eq_getElem hlt), ?_⟩
      rw [List.drop_eq_getElem_cons hlt] at hl
      unfold loopF at hl
      refine ⟨fun σ2 H2 => ∃ ρ2, Stw (kw X) mp σ ρ1 H1 σ2 ρ2 H2 ∧ loopF (tgB mp t fun ρ => execs Φ Mu mp b ρ) (xs.drop (n + 1)) ρ2 = some (f, ρ'), fun σ2 H2 ⟨ρ2, S2, h2⟩ => ⟨xs.length - (n + 1), by omega, hlt, rfl, ρ2, S2, h2⟩, fun x H2 y => ?_⟩
      obtain ⟨kp, d, hd, rx⟩ := jy n x H2 hlt y
      rw [List.getElem?_eq_getElem hlt] at hd
      cases hd
      cases ha : asgT mp t xs[n] ρi with
      | none => simp [tgB, ha] at hl
      | some ρa =>
        simp only [tgB, ha] at hl
        have S2 : Stw (kw X) mp σ ρ1 H1 σ' ρi H2 := S.trans (Out.w (Out.more S.env kp))
        refine ⟨xs[n], ρi, ρa, rx, S2.env, ha, fun σ3 H3 s3 f3 => ?_⟩
        have S3 : Stw (kw X) mp σ ρ1 H1 σ3 ρa H3 := S2.trans (s3.w fun j hj => f3.2 j fun z => mp_of_asgT ha j z hj)
        cases hb' : execs Φ Mu mp b ρa with
        | none => simp [hb'] at hl
        | some yy =>
          obtain ⟨f1, ρb⟩ := yy
          simp only [hb'] at hl
          refine ⟨ρa, f1, ρb, S3.env, hb', ?_⟩
          cases f1 with
          | nx => exact fun σ4 H4 s4 => ⟨ρb, S3.trans s4, hl⟩
          | ct => exact fun σ4 H4 s4 => ⟨ρb, S3.trans s4, hl⟩
          | br =>
            cases hl
            exact fun σ4 H4 s4 => k1 σ4 H4 (S3.trans s4)
          | rt r =>
            cases hl
            exact fun σ4 H4 x4 s4 rr => k1 σ4 H4 x4 (S3.trans s4) (rr.early S3)
    · left
      have e : n = xs.length := by omega
      subst e
      rw [List.drop_length] at hl
      unfold loopF at hl
      cases hl
      exact ⟨js, k1 σ' H' S⟩
  · cases e1
theorem whileD_of {cc : Env → Option (Bool × Env)} {bb : Env → Option (Fl × Env)} {ρ : Env} {r : Fl × Env} (h : whileD cc bb ρ = some r) : ∃ n, whileN cc bb n ρ = some r := by
  unfold whileD at h
  split at h
  · rename_i hh
    cases h
    exact ⟨Classical.choose hh, Classical.choose_spec (Classical.choose_spec hh)⟩
  · cases h
theorem ps_while_ok {a : Ex} {e : Expr} {b : Sts} {body : List Stmt} {pos : Pos} (hx : X.xe = fun _ _ => False) (h : PT X e (tT (kw X) (bT (den Φ Mu mp a)))) (hb : PSs X body (tS (kw X) mp (execs Φ Mu mp b))) :
    PS X (.While e body [] pos) (tS (kw X) mp (exec Φ Mu mp (.while a b))) := PS.imp (ps_while (by rw [hx]; exact PassesOwn.never) h hb) fun Dn σ H ⟨ρ, f, ρ', R, e1, k⟩ => by
  rw [exec] at e1
  obtain ⟨n, e1⟩ := whileD_of e1
  refine ⟨fun m σ' H' => ∃ ρi, Stw (kw X) mp σ ρ H σ' ρi H' ∧ whileN (bT (den Φ Mu mp a)) (fun ρ => execs Φ Mu mp b ρ) m ρi = some (f, ρ'), ⟨n, ρ, Out.w (Out.refl R), e1⟩, ?_⟩
  rintro m σ' H' ⟨ρi, S, hw⟩
  cases m with
  | zero => cases hw
  | succ m =>
    unfold whileN at hw
    cases hc : bT (den Φ Mu mp a) ρi with
    | none => simp [hc] at hw
    | some y =>
      obtain ⟨kk, ρ1⟩ := y
      simp only [hc] at hw
      refine ⟨ρi, kk, ρ1, S.env, hc, fun H1 o1 => ?_⟩
      have S1 : Stw (kw X) mp σ ρ H σ' ρ1 H1 := S.trans (Out.w o1)
      cases kk with
      | false =>
        cases hw
        exact k σ' H1 S1
      | true =>
        refine ⟨fun σ2 H2 => ∃ ρ2, Stw (kw X) mp σ ρ H σ2 ρ2 H2 ∧ whileN (bT (den Φ Mu mp a)) (fun ρ => execs Φ Mu mp b ρ) m ρ2 = some (f, ρ'), fun σ2 H2 hh => ⟨m, Nat.lt_succ_self _, hh⟩, ?_⟩
        cases hb' : execs Φ Mu mp b ρ1 with
        | none => simp [hb'] at hw
        | some yy =>
          obtain ⟨f1, ρb⟩ := yy
          simp only [hb'] at hw
          refine ⟨ρ1, f1, ρb, S1.env, hb', ?_⟩
          cases f1 with
          | nx => exact fun σ4 H4 s4 => ⟨ρb, S1.trans s4, hw⟩
          | ct => exact fun σ4 H4 s4 => ⟨ρb, S1.trans s4, hw⟩
          | br =>
            cases hw
            exact fun σ4 H4 s4 => k σ4 H4 (S1.trans s4)
          | rt r =>
            cases hw
            exact fun σ4 H4 x4 s4 rr => k σ4 H4 x4 (S1.trans s4) (rr.early S1)
end
end MP

/-! MP: assignments. -/
namespace MP
open PySem PySem.Spec PyProof.Rows L2
section
variable {K : MKx} {mp : List Nat} {σ : L2.St} {ρ ρ1 : Env} {H H1 : Hp}
/-- a slot takes a new list -/
theorem stw_own {i : Nat} {p : Addr} {l : List PyData} (R : EnvRel K σ ρ H) (a : Out K σ ρ H ρ1 H1) (hi : i < ρ1.length) (hm : i ∉ mp) (o : OwnL K H1 p l) (hn : H p = none) : Stw K mp σ ρ H (σ.set i (some (V.ref p))) (ρ1.set i (some (true, .list l))) H1 := by
  have hs : i < σ.length := by rw [← a.env.len]; exact hi
  have no : ∀ {j : Nat} {e : PyData}, ρ1[j]? = some (some (true, e)) → σ[j]? ≠ some (some (V.ref p)) := fun {j e} h1 h2 => by
    obtain ⟨ys, q⟩ := R.owned (a.less p ⟨j, e, h1, h2⟩)
    rw [hn] at q
    cases q
  refine ⟨⟨by rw [List.length_set, List.length_set]; exact a.env.len, fun j e q => ?_, fun j e q => ?_, fun j k e f q h1 h2 h3 h4 => ?_⟩, a.keep, fun b ⟨j, e, h1, h2⟩ => ?_, a.there, fun j hj => List.getElem?_set_ne fun z => hm (by rw [z]; exact hj)⟩
  · by_cases z : i = j
    · subst z
      rw [List.getElem?_set_self hi] at q
      cases q
    · rw [List.getElem?_set_ne z] at q
      rw [List.getElem?_set_ne z]
      exact a.env.sh j e q
  · by_cases z : i = j
    · subst z
      rw [List.getElem?_set_self hi] at q
      cases q
      exact ⟨p, l, List.getElem?_set_self hs, rfl, o⟩
    · rw [List.getElem?_set_ne z] at q
      rw [List.getElem?_set_ne z]
      exact a.env.own j e q
  · by_cases z1 : i = j
    · by_cases z2 : i = k
      · rw [← z1, z2]
      · subst z1
        rw [List.getElem?_set_self hs] at h3
        cases h3
        rw [List.getElem?_set_ne z2] at h2 h4
        exact (no h2 h4).elim
    · rw [List.getElem?_set_ne z1] at h1 h3
      by_cases z2 : i = k
      · subst z2
        rw [List.getElem?_set_self hs] at h4
        cases h4
        exact (no h1 h3).elim
      · rw [List.getElem?_set_ne z2] at h2 h4
        exact a.env.inj j k e f q h1 h2 h3 h4
  · by_cases z : i = j
    · subst z
      rw [List.getElem?_set_self hs] at h2
      cases h2
      exact .inr hn
    · rw [List.getElem?_set_ne z] at h1 h2
      exact .inl (a.less b ⟨j, e, h1, h2⟩)
/-- a slot takes a result -/
theorem asgV_ok {i : Nat} {r : Res} {x : V} {ρ2 : Env} {Q : Hp → Prop} (R : EnvRel K σ ρ H) (a : Out K σ ρ H ρ1 H1) (h : ResRel K σ H H1 r x) (e : asgV mp i r ρ1 = some ρ2) (k : ∀ H', Stw K mp σ ρ H (σ.set i (some x)) ρ2 H' → Q H') : Lk Q H1 := by
  unfold asgV at e
  split at e
  · cases e
  · rename_i hc
    simp only [Bool.or_eq_true, Bool.not_eq_true', decide_eq_false_iff_not, not_or, Decidable.not_not, List.contains_eq_mem, decide_eq_true_eq] at hc
    obtain ⟨hm, hi⟩ := hc
    have mpf : ∀ j ∈ mp, (σ.set i (some x))[j]? = σ[j]? := fun j hj => List.getElem?_set_ne fun z => hm (by rw [z]; exact hj)
    cases r with
    | sh d =>
      cases e
      exact .done (k H1 ((Stp.trans a (stp_set a.env hi h)).w mpf))
    | own d =>
      cases e
      obtain ⟨p, l, rfl, rfl, o, hn⟩ := h
      exact .done (k H1 (stw_own R a hi hm o hn))
    | bor j =>
      simp only at e
      split at e
      · cases e
      · split at e
        · rename_i d hv
          cases e
          refine frz_one R a h hv fun H2 ex o2 rp => k H2 ?_
          exact (Stp.trans o2 (stp_set o2.env (by rw [frzR_length]; exact hi) rp)).w mpf
        · cases e
end
section
variable {X : Cx} {mp : List Nat} {Φ : Ph} {Mu : Nat → List Bool} {c : Ck}
theorem exec_asg {t : Tg} {a : Ex} {ρ : Env} {f : Fl} {ρ' : Env} (e : exec Φ Mu mp (.asg t a) ρ = some (f, ρ')) : f = .nx ∧ ∃ r ρ1, den Φ Mu mp a ρ = some (r, ρ1) ∧ asgR mp t r ρ1 = some ρ' := by
  rw [exec] at e
  split at e
  · rename_i r ρ1 h1
    split at e
    · rename_i ρ2 h2
      cases e
      exact ⟨rfl, r, ρ1, h1, h2⟩
    · cases e
  · cases e
theorem ps_asgV {i : Nat} {x : Str} {a : Ex} {e : Expr} {px pos : Pos} (G : Gd0 c X) (hi : c.N[i]? = some x) (hl : locB c x = true) (hs : swapsWith e (some (.Name x px)) pos.line X.env = pure false) (h : PE X e (tM (kw X) (den Φ Mu mp a))) :
    PS X (.Assign [.Name x px] e pos) (tS (kw X) mp (exec Φ Mu mp (.asg (.var i) a))) := by
  obtain ⟨l1, l2⟩ := G.loc hl
  refine PS.imp (ps_set (i := i) G.nd (by rw [G.n]; exact hi) l1 (PE.lk G.sys h) hs l2) fun Dn σ H ⟨ρ, f, ρ', R, e1, k⟩ => ?_
  obtain ⟨rfl, r, ρ1, h1, h2⟩ := exec_asg e1
  exact ⟨ρ, r, ρ1, R, h1, fun y H1 o1 r1 => asgV_ok R o1 r1 h2 fun H2 s2 => k _ H2 s2⟩
theorem swT {ts : List Expr} {kk : Nat} {tp : Pos} {e : Expr} {l : Nat} {env : PySem.Env} : swapsWithSole [.Tuple ts kk tp] e l env = pure false := by
  cases e <;> rfl
def notTup : Expr → Bool
  | .Tuple _ _ _ => false
  | _ => true
theorem swN {ts : List Expr} {kk : Nat} {tp : Pos} {e : Expr} {env : PySem.Env} (h : notTup e = true) : swappedStores [.Tuple ts kk tp] e env = pure none := by
  cases e <;> first | rfl | cases h
theorem ps_asgT {ts : Tgs} {a : Ex} {es : List Expr} {kk : Nat} {tp pos : Pos} {e : Expr} (G : Gd0 c X) (ht : chkT c (.tup ts) (.Tuple es kk tp) = true) (hn : notTup e = true) (h : PE X e (tM (kw X) (den Φ Mu mp a))) : PS X (.Assign [.Tuple es kk tp] e pos) (tS (kw X) mp (exec Φ Mu mp (.asg (.tup ts) a))) := by
  refine PS.imp (ps_asg (PE.lk G.sys h) (pg_of (mp := mp) G ht) swT (swN hn) rfl) fun Dn σ H ⟨ρ, f, ρ', R, e1, k⟩ => ?_
  obtain ⟨rfl, r, ρ1, h1, h2⟩ := exec_asg e1
  unfold asgR at h2
  simp only at h2
  split at h2
  · rename_i d hv
    exact ⟨ρ, r, ρ1, R, h1, fun y H1 o1 r1 => frz_one R o1 r1 hv fun H2 ex o2 rp => ⟨d, _, ρ', rp, o2.env, h2, fun σ' H' s' f' => k σ' H' ((Stp.trans o2 s').w fun j hj => f'.2 j fun z => mp_of_asgT h2 j z hj)⟩⟩
  · cases h2
/-- a comprehension on the same line -/
theorem ps_asgC {i : Nat} {x : Str} {own : List Nat} {elt : Ex} {cl : Cl} {ee : Expr} {gens : List Comprehension} {scope : Scope} {cpos px pos : Pos} (G : Gd Φ Mu c X) (hi : c.N[i]? = some x) (hl : X.env.scope.names.lookup x = some .local) (hsw : swapsWith (.ListComp ee gens scope cpos) (some (.Name x px)) pos.line X.env = pure true)
    (h : chkE c (.comp own elt cl) (.ListComp ee gens scope cpos) = true) : PS X (.Assign [.Name x px] (.ListComp ee gens scope cpos) pos) (tS (kw X) mp (exec Φ Mu mp (.asg (.var i) (.comp own elt cl)))) := by
  have h1 : (blkC c.N c.sc scope (ownP c own) && chkE (blkK c scope) elt ee && chkCl c (blkK c scope) own cl gens) = true := h
  simp only [Bool.and_eq_true] at h1
  obtain ⟨⟨hb, he⟩, hcl⟩ := h1
  have ok := scl_ok (Φ := Φ) (Mu := Mu) (mp := mp) (cl := cl) hcl
  have bo : BlkOk X.N X.env.scope scope (ownP c own) := by
    rw [G.n, G.sc]
    exact blkOk_by hb
  refine ⟨fun pins s σ H Dn I q => ?_⟩
  obtain ⟨ρ, f, ρ', R, e1, k⟩ := q
  obtain ⟨rfl, r, ρa, e1, e2⟩ := exec_asg e1
  obtain ⟨tg, iter, es, rest, rfl, hns, hpi⟩ := ok.first
  rw [exec_Assign_Name_used _ _ _ _ hsw]
  refine wpAny_bind (wpAny_standAt (wpAny_bind ?_))
  show wpAny _ X.A (do let _ ← comprehension (.ListComp ee (⟨tg, iter, es, 0⟩ :: rest) scope cpos) scope X.env (firstIterPos (⟨tg, iter, es, 0⟩ :: rest) cpos) (newList []) false (eval iter X.env) (some (assign (.Name x px) X.env))) _ _ s
  rw [den] at e1
  split at e1
  · rename_i xs ρ1 h1
    split at e1
    · rename_i ds ρ2 h2
      split at e1
      · rename_i hz
        cases e1
        refine wpAny_bind (thn (comp_run (own := ownP c own) (use := some (assign (.Name x px) X.env)) (DI := denF Φ Mu mp cl) (F := denL Φ Mu mp (kElt (den Φ Mu mp elt)) cl) (Q := fun x H' => Dn.nx (σ.set i (some x)) H') (Qf := fun _ s' => SP X pins Dn .next s') G.calm G.nd I (hpi X G) bo
          (fun s H C cl' fp D => by rw [ownP_snd]; exact ok.loop _ ee _ scope cpos 0 _ D (G.blk scope s H C cl' fp) (fun _ _ z => z) rfl (se_ok (G.blk scope s H C cl' fp) he).1 tg ⟨iter, es, rest, rfl⟩) (fsi hns _) R h1
          (by rw [ownP_snd]; exact h2) hz (fun D H' o rr => ?_) fun D C s' m H' I' q hn f => ?_) fun _ s' hq => wpAny_pure (wpAny_pure hq))
        · rw [ownP_snd] at o
          obtain ⟨p, l, e3, e4, oo, hf⟩ := rr
          cases e3
          cases e4
          have e2' : asgV mp i (.own (.list ds)) (back ρ1 ρ2 own) = some ρ' := e2
          unfold asgV at e2'
          split at e2'
          · cases e2'
          · rename_i hc
            simp only [Bool.or_eq_true, Bool.not_eq_true', decide_eq_false_iff_not, not_or, Decidable.not_not, List.contains_eq_mem, decide_eq_true_eq] at hc
            cases e2'
            exact k _ _ (stw_own R o hc.2 hc.1 oo hf)
        · show wpAny _ _ (assign (.Name x px) X.env (.ref D)) _ _ _
          refine wpAny_assign_Name (store_ok2 (v := V.ref D) I' G.nd (by rw [G.n]; exact hi) (.inl hl) rfl (fun s2 I2 ⟨a, sb, ha⟩ => ?_) (.inr hl))
          obtain ⟨f0, f1, f2, f3, f4, f5⟩ := f
          have haC : C ≠ a := by
            rcases ha with z | z
            · rw [z]; exact f1
            · exact fun e => f4 x a z e.symm
          refine ⟨m, hn.sameBut sb haC, fun h3 sb3 => ?_⟩
          exact ⟨_, H', I2.turned (t' := s2.toks) (fun b o hb e => (sb3.2 b hb).trans e) f0 f1 f3 f4 f5, q⟩
      · cases e1
    · cases e1
  · cases e1
end
end MP

/-! MP: cells of lists, parallel assignments. -/
namespace MP
open PySem PySem.Spec PyProof.Rows L2
section
variable {X : Cx} {mp : List Nat} {Φ : Ph} {Mu : Nat → List Bool} {c : Ck}
theorem args3 {K : MKx} {σ : L2.St} {H : Hp} {a b d : Ex} {Q : List V → Hp → Prop} (h : tMs K (dens Φ Mu mp (.cons a (.cons b (.cons d .nil)))) σ H Q) : tM K (den Φ Mu mp a) σ H fun x H1 => tM K (den Φ Mu mp b) σ H1 fun y H2 => tM K (den Φ Mu mp d) σ H2 fun z H3 => Q [x, y, z] H3 := by
  have h1 := tMs_cons (D := den Φ Mu mp a) (Dr := dens Φ Mu mp (.cons b (.cons d .nil))) (fun ρ => by rw [dens] <;> rfl) h
  exact tM_mono h1 fun x H1 q => args2 q
theorem den_var {i : Nat} {ρ : Env} {r : Res} {ρ' : Env} (e : den Φ Mu mp (.var i) ρ = some (r, ρ')) : ρ' = ρ ∧ ((r = .bor i ∧ ∃ d, ρ[i]? = some (some (true, d))) ∨ ∃ d, r = .sh d ∧ ρ[i]? = some (some (false, d))) := by
  rw [den] at e
  split at e
  · cases e
    exact ⟨rfl, .inl ⟨rfl, _, by assumption⟩⟩
  · cases e
    exact ⟨rfl, .inr ⟨_, rfl, by assumption⟩⟩
  · cases e
theorem dens3_bor {a d : Ex} {i j : Nat} {ρ : Env} {ra rd : Res} {ρ' : Env} (e : dens Φ Mu mp (.cons a (.cons (.var i) (.cons d .nil))) ρ = some ([ra, .bor j, rd], ρ')) : j = i := by
  rw [dens] at e
  split at e
  · rename_i x ρ1 h1
    split at e
    · rename_i xs ρ2 h2
      cases e
      rw [dens] at h2
      split at h2
      · rename_i y ρ3 h3
        split at h2
        · rename_i zs ρ4 h4
          simp only [Option.some.injEq, Prod.mk.injEq] at h2
          obtain ⟨h2, _⟩ := h2
          rw [List.cons.injEq] at h2
          have h5 := h2.1
          rcases fixB_eq ρ3 ρ4 y with q | ⟨i2, d2, q1, q2, _⟩
          · rw [q] at h5
            subst h5
            rcases (den_var h3).2 with ⟨z, _⟩ | ⟨_, z, _⟩
            · cases z
              rfl
            · cases z
          · rw [q2] at h5
            cases h5
        · cases h2
      · cases h2
    · cases e
  · cases e
/-- xs[k] = e -/
theorem ps_set_ok {i : Nat} {x : Str} {k a : Ex} {ek e : Expr} {px p2 pos : Pos} (G : Gd Φ Mu c X) (hi : c.N[i]? = some x) (hv : visB c x = true) (hp : plN x = true) (hsl : notSl ek = true) (hk : PE X ek (tM (kw X) (den Φ Mu mp k))) (h : PE X e (tM (kw X) (den Φ Mu mp a))) :
    PS X (.Assign [.Subscript (.Name x px) ek p2] e pos) (tS (kw X) mp (exec Φ Mu mp (.set i k a))) := by
  obtain ⟨p1, p3⟩ := plN_of hp
  have ho := pe_v (Φ := Φ) (Mu := Mu) (mp := mp) (pos := px) G.toGd0 hi hv p1 p3
  have hs1 : swapsWithSole [.Subscript (.Name x px) ek p2] e pos.line X.env = pure false := by
    cases e <;> rfl
  have hs2 : swappedStores [.Subscript (.Name x px) ek p2] e X.env = pure none := by cases e <;> rfl
  have ha : ∀ v, assign (.Subscript (.Name x px) ek p2) X.env v = (do
      let ov ← holding [v] (eval (.Name x px) X.env)
      let iv ← holding [v, ov] (eval ek X.env)
      standAt p2
      holding [v, ov, iv] (setItem ov iv v)
      release [v, ov, iv] []) := fun v => by cases ek <;> first | rfl | cases hsl
  refine PS.imp (ps_asg h (pg_sub ho (PE.lk G.sys hk) set_list ha) hs1 hs2 rfl) fun Dn σ H ⟨ρ, f, ρ', R, e1, kk⟩ => ?_
  rw [exec] at e1
  split at e1
  · rename_i re j0 rk ρ1 h1
    have hj := dens3_bor h1
    subst hj
    split at e1
    · rename_i d j xs h2 h3 h4
      split at e1
      · rename_i n h5
        cases e1
        refine args3 (Q := fun vs H3 => ∃ v o iv, vs = [v, o, iv] ∧ Lk (fun H4 => rSetL o iv v H4 fun H5 => Dn.nx σ H5) H3) ⟨ρ, _, ρ1, R, h1, fun vs H3 o1 r1 nd => ?_⟩ |> fun q => tM_mono q fun v H1 q => tM_mono q fun o H2 q => tM_mono q fun iv H3 ⟨v', o', iv', ev, q⟩ => by cases ev; exact q
        cases r1 with
        | @cons _ v _ _ s1 r1 =>
          cases r1 with
          | @cons _ o _ _ s2 r1 =>
            cases r1 with
            | @cons _ iv _ _ s3 r1 =>
              cases r1
              refine ⟨v, o, iv, rfl, frz_one R o1 s1 h2 fun H4 ex o2 rp => ?_⟩
              obtain ⟨p, rfl, hs⟩ := s2
              have hi' := valOf_bor h4
              obtain ⟨p', l, g1, g2, vs', g3, g4⟩ := o2.env.own _ _ hi'
              rw [hs] at g1
              cases g1
              cases g2
              have hiv := (s3.readable o1.env h3).int
              subst hiv
              refine ⟨p, vs', j, n, rfl, rfl, g3, by rw [g4.length]; exact h5, kk σ _ (Out.w (stp_mut o2 hi' hs ⟨vs', g3⟩ (g4.set rp n)))⟩
      · cases e1
    · cases e1
  · cases e1
theorem no_iadd_tup : typeLookup (.type "tuple") (dunderI "add") = pure none := am_miss_of_fast (by decide +kernel)
/-- t += u, by places -/
theorem icat_tup {prog : Program} {w : World} {A : Around} {E : Value → Shared → Prop} {s : Shared} {t b : Addr} {vs ws : List Value} {Q : Value → Shared → Prop} (ht : IsTup s.heap t vs.toArray) (hb : IsTup s.heap b ws.toArray)
    (h0 : vs = [] → Q (.ref b) s) (h1 : vs ≠ [] → ws = [] → Q (.ref t) s) (h2 : vs ≠ [] → ws ≠ [] → Q (.ref s.heap.objs.size) { s with heap := s.heap.push { cls := .type "tuple", data := .seq (vs ++ ws).toArray } })
    (hsz : vs.length + ws.length ≤ sizeLine) : wpAny (model prog w) A (inplaceOp .Add (.ref t) (.ref b)) Q E s := by
  obtain ⟨⟨cls, dd, data, sl⟩, ho, hc, n, hd⟩ := id ht
  obtain ⟨⟨cls2, dd2, data2, sl2⟩, ho2, hc2, n2, hd2⟩ := id hb
  simp only at hc hd hc2 hd2
  subst hc hd hc2 hd2
  by_cases hv : vs = []
  · exact wpAny_inplaceOp_concat ⟨_, ho, rfl⟩ ⟨_, ho2, rfl⟩ no_iadd_tup noFill_tuple_add seq_tuple_add (call_meets PySem.F.slot_tuple_add ⟨_, ho, rfl⟩ PySem.F.entry_tuple_add (PySem.F.args_tuple_add_2 _ _)
      (tuple_addW0 t b vs.toArray ws.toArray n n2 dd dd2 sl sl2 (by simp [hv])) ⟨ho, ho2, h0 hv⟩)
  · by_cases hw : ws = []
    · exact wpAny_inplaceOp_concat ⟨_, ho, rfl⟩ ⟨_, ho2, rfl⟩ no_iadd_tup noFill_tuple_add seq_tuple_add (call_meets PySem.F.slot_tuple_add ⟨_, ho, rfl⟩ PySem.F.entry_tuple_add (PySem.F.args_tuple_add_2 _ _)
        (tuple_addW1 t b vs.toArray ws.toArray n n2 dd dd2 sl sl2 (by simpa using hv) (by simp [hw])) ⟨ho, ho2, h1 hv hw⟩)
    · refine wpAny_inplaceOp_concat ⟨_, ho, rfl⟩ ⟨_, ho2, rfl⟩ no_iadd_tup noFill_tuple_add seq_tuple_add (call_meets PySem.F.slot_tuple_add ⟨_, ho, rfl⟩ PySem.F.entry_tuple_add (PySem.F.args_tuple_add_2 _ _)
        (tuple_addW2 t b vs.toArray ws.toArray n n2 dd dd2 sl sl2 (by simpa using hv) (by simpa using hw) (by rw [List.size_toArray, List.size_toArray]; exact hsz)) ⟨ho, ho2, ?_⟩)
      rw [show vs.toArray ++ ws.toArray = (vs ++ ws).toArray from by simp]
      exact h2 hv hw
/-- x += y by values: both ints, or both tuples -/
def ipA (K : MKx) : TIp := fun x y H Q => ipI (fun i j => i + j) x y H Q ∨ ∃ a b xs ys, x = .ref a ∧ y = .ref b ∧ SqT K H a xs ∧ SqT K H b ys ∧ xs.length + ys.length ≤ sizeLine ∧
  (xs = [] → Q (.ref b) H) ∧ (xs ≠ [] → ys = [] → Q (.ref a) H) ∧ (xs ≠ [] → ys ≠ [] → ∀ p, H p = none → Q (.ref p) (upd H p (.tup (xs ++ ys))))
theorem ip_addA : PIp X .Add (ipA (kw X)) := by
  intro pins s σ H x y v u Q I rx ry h
  rcases h with h | ⟨a, b, xs, ys, rfl, rfl, ha, hb, hz, q0, q1, q2⟩
  · exact ip_add pins s σ H x y v u Q I rx ry h
  · cases rx
    cases ry
    obtain ⟨its, r1, p1, _⟩ := I.tuple ha
    obtain ⟨its2, r2, p2, _⟩ := I.tuple hb
    refine icat_tup p1 p2 (fun z => ⟨.ref b, H, I, rfl, q0 (r1.nil_iff.mp z)⟩) (fun z z2 => ⟨.ref a, H, I, rfl, q1 (fun w => z (r1.nil_iff.mpr w)) (r2.nil_iff.mp z2)⟩) (fun z z2 => ?_) (by rw [← r1.length, ← r2.length]; exact hz)
    refine ⟨.ref s.heap.objs.size, _, I.laid (t' := s.toks) (o := .tup (xs ++ ys)) (fun b ob q => Heap.get?_push_of_some _ q) (Nat.le_refl _) ?_, rfl, q2 (fun w => z (r1.nil_iff.mpr w)) (fun w => z2 (r2.nil_iff.mpr w)) _ (I.hok.fresh (Nat.le_refl _))⟩
    exact ⟨by rw [List.length_append]; exact hz, _, r1.append r2, IsTup.new _ _⟩
/-- x += e -/
theorem ps_aug_ok {i : Nat} {x : Str} {o : Bn} {op : Operator} {a : Ex} {e : Expr} {px pos : Pos} (G : Gd0 c X) (hi : c.N[i]? = some x) (hl : locB c x = true) (ho : (o = .add ∧ op = .Add) ∨ (o = .sub ∧ op = .Sub)) (h : PE X e (tM (kw X) (den Φ Mu mp a))) :
    PS X (.AugAssign (.Name x px) op e pos) (tS (kw X) mp (exec Φ Mu mp (.aug i o a))) := by
  obtain ⟨l1, l2⟩ := G.loc hl
  have key : ∀ {ti : TIp}, (∀ (u v d : PyData) (x y : V) (H : Hp) (Q : VK), opAug o u v = some d → Rep (kw X) H x u → Readable (kw X) H y v → (∀ z H2, (∀ a ob, H a = some ob → H2 a = some ob) → Rep (kw X) H2 z d → Q z H2) → ti x y H Q) → PIp X op ti → PS X (.AugAssign (.Name x px) op e pos) (tS (kw X) mp (exec Φ Mu mp (.aug i o a))) := fun {ti} hf hp => by
    refine PS.imp (ps_aug (i := i) G.nd (by rw [G.n]; exact hi) l1 h hp l2) fun Dn σ H ⟨ρ, fl, ρ', R, e1, kk⟩ => ?_
    rw [exec] at e1
    split at e1
    · rename_i a0 ρ1 h1
      split at e1
      · rename_i r ρ2 h2
        split at e1
        · rename_i b h3
          split at e1
          · rename_i d h4
            split at e1
            · rename_i ρ3 h5
              cases e1
              obtain ⟨rfl, hh⟩ := den_var h1
              rcases hh with ⟨z, _⟩ | ⟨d0, z, h0⟩
              · cases z
              · cases z
                obtain ⟨y, hy, ry⟩ := R.sh i _ h0
                refine ⟨_, hy, ρ1, r, ρ2, R, h2, fun z H1 o1 r1 => hf _ _ _ _ _ _ _ h4 (ry.ext (o1.ext R)) (r1.readable o1.env h3) fun z2 H2 kp rz => ?_⟩
                unfold asgV at h5
                split at h5
                · cases h5
                · rename_i hc
                  cases h5
                  simp only [Bool.or_eq_true, Bool.not_eq_true', decide_eq_false_iff_not, not_or, Decidable.not_not, List.contains_eq_mem, decide_eq_true_eq] at hc
                  have o2 := Out.more o1.env kp
                  exact kk _ _ ((Stp.trans (Stp.trans o1 o2) (stp_set o2.env hc.2 rz)).w fun j hj => List.getElem?_set_ne fun z => hc.1 (by rw [z]; exact hj))
            · cases e1
          · cases e1
        · cases e1
      · cases e1
    · cases e1
  rcases ho with ⟨rfl, rfl⟩ | ⟨rfl, rfl⟩
  · refine key (ti := ipA (kw X)) (fun u v d x y H Q hd rx ry k => ?_) ip_addA
    unfold opAug at hd
    split at hd
    · cases hd
      cases rx
      cases ry.int
      exact .inl ⟨_, _, rfl, rfl, k _ H (fun _ _ q => q) (.int _)⟩
    · rename_i z
      cases z
    · split at hd
      · rename_i hz
        cases hd
        obtain ⟨p, vs, rfl, q1, r1⟩ := (Readable.tup (.inl rx))
        obtain ⟨p2, ws, rfl, q2, r2⟩ := ry.tup
        have hz' : vs.length + ws.length ≤ sizeLine := by rw [r1.length, r2.length]; exact of_decide_eq_true hz
        refine .inr ⟨p, p2, vs, ws, rfl, rfl, q1, q2, hz', fun e0 => ?_, fun _ e0 => ?_, fun _ _ p3 hp => ?_⟩
        · subst e0
          cases r1
          exact k _ H (fun _ _ e => e) (by simpa using (Rep.tup q2 r2))
        · subst e0
          cases r2
          exact k _ H (fun _ _ e => e) (by simpa using (Rep.tup q1 r1))
        · exact k _ _ (kept_upd hp) (new_tup hp (r1.append r2))
      · cases hd
    · cases hd
  · refine key (ti := ipI fun i j => i - j) (fun u v d x y H Q hd rx ry k => ?_) ip_sub
    unfold opAug at hd
    split at hd
    · rename_i z
      cases z
    · cases hd
      cases rx
      cases ry.int
      exact ⟨_, _, rfl, rfl, k _ H (fun _ _ q => q) (.int _)⟩
    · rename_i z
      cases z
    · cases hd
end
end MP

/-! MP: parallel assignments. -/
namespace MP
open PySem PySem.Spec PyProof.Rows L2
/-- results that wait for their targets -/
inductive Pnd (K : MKx) (H0 : Hp) (σ : L2.St) (ρ : Env) (H : Hp) : List Res → List V → Prop where
  | nil : Pnd K H0 σ ρ H [] []
  | sh {x d rs xs} : Rep K H x d → Pnd K H0 σ ρ H rs xs → Pnd K H0 σ ρ H (.sh d :: rs) (x :: xs)
  | own {p l rs xs} : OwnL K H p l → H0 p = none → ¬ Owned σ ρ p → p ∉ owns rs xs → Pnd K H0 σ ρ H rs xs → Pnd K H0 σ ρ H (.own (.list l) :: rs) (.ref p :: xs)
/-- borrowed ones have become shared ones -/
inductive FxR (ρ : Env) : List Res → List Res → Prop where
  | nil : FxR ρ [] []
  | sh {d rs rs'} : FxR ρ rs rs' → FxR ρ (.sh d :: rs) (.sh d :: rs')
  | own {d rs rs'} : FxR ρ rs rs' → FxR ρ (.own d :: rs) (.own d :: rs')
  | bor {j d rs rs'} : (∃ b, ρ[j]? = some (some (b, d))) → FxR ρ rs rs' → FxR ρ (.bor j :: rs) (.sh d :: rs')
section
variable {K : MKx} {mp : List Nat} {σ σ0 σ' : L2.St} {ρ ρ0 ρ' : Env} {H H0 H' : Hp}
theorem fxR_of : ∀ {rs rs' : List Res}, fxR ρ rs = some rs' → FxR ρ rs rs'
  | [], _, e => by
    cases e
    exact .nil
  | .bor j :: rs, _, e => by
    unfold fxR at e
    split at e
    · rename_i h1 h2
      cases e
      exact .bor ⟨true, valOf_bor h1⟩ (fxR_of h2)
    · cases e
  | .sh d :: rs, _, e => by
    unfold fxR at e
    split at e
    · rename_i h
      cases e
      exact .sh (fxR_of h)
    · cases e
  | .own d :: rs, _, e => by
    unfold fxR at e
    split at e
    · rename_i h
      cases e
      exact .own (fxR_of h)
    · cases e
theorem FxR.frz {r : Res} : ∀ {rs rs' : List Res}, FxR ρ rs rs' → FxR (frzR ρ r) rs rs'
  | _, _, .nil => .nil
  | _, _, .sh h => .sh h.frz
  | _, _, .own h => .own h.frz
  | _, _, .bor ⟨b, h⟩ r => .bor (frzR_at h) r.frz
theorem FxR.owns : ∀ {rs rs' : List Res} {xs : List V}, FxR ρ rs rs' → owns rs' xs = owns rs xs
  | _, _, _, .nil => rfl
  | _, _, [], .sh h => rfl
  | _, _, x :: xs, .sh h => by
    show MP.owns _ xs = MP.owns _ xs
    exact h.owns
  | _, _, [], .own h => by simp [MP.owns]
  | _, _, x :: xs, .own h => by
    cases x <;> simp [MP.owns, h.owns]
  | _, _, [], .bor _ h => rfl
  | _, _, x :: xs, .bor _ h => by
    show MP.owns _ xs = MP.owns _ xs
    exact h.owns
/-- the borrowed ones are fixed -/
theorem frz_b {Q : Hp → Prop} : ∀ {rs rs' : List Res} {xs : List V} {ρ : Env} {H : Hp}, EnvRel K σ ρ0 H0 → Out K σ ρ0 H0 ρ H → ResAll K σ H0 H rs xs → (owns rs xs).Nodup → (∀ p ∈ owns rs xs, ¬ Owned σ ρ p) → FxR ρ rs rs' →
    (∀ H', Ext H H' → (∀ a o, H a = some o → ¬ Owned σ ρ a → H' a = some o) → Out K σ ρ0 H0 (frzRs ρ (fz (notB rs) rs)) H' → Pnd K H0 σ (frzRs ρ (fz (notB rs) rs)) H' rs' xs → Q H') → Lk Q H
  | _, _, _, _, H, R, a, .nil, _, _, .nil, k => .done (k H (Ext.refl H) (fun _ _ e _ => e) a .nil)
  | _, _, _, ρ, H, R, a, .cons (r := r) (x := x) (rs := rs) (xs := xs) r1 rr, nd, no, f, k => by
    cases f with
    | sh f =>
      exact frz_b R a rr (by simpa [owns] using nd) (fun p hp => no p (by simpa [owns] using hp)) f fun H' ex ke st pn => k H' ex ke st (.sh (Rep.ext ex r1) pn)
    | own f =>
      obtain ⟨p, es, rfl, rfl, ⟨ys, h1, h2⟩, h3⟩ := r1
      simp only [owns, List.nodup_cons] at nd
      have hp : ¬ Owned σ ρ p := no p (by simp [owns])
      refine frz_b R a rr nd.2 (fun q hq => no q (by simp only [owns, List.mem_cons]; exact .inr hq)) f fun H' ex ke st pn => k H' ex ke st ?_
      refine .own ⟨ys, ke p _ h1 hp, h2.ext ex⟩ h3 (fun z => ?_) (by rw [f.owns]; exact nd.1) pn
      obtain ⟨zs, q⟩ := R.owned (st.less p z)
      rw [h3] at q
      cases q
    | bor hv f =>
      rename_i i d rs'
      obtain ⟨b, hi⟩ := hv
      obtain ⟨p, rfl, hs⟩ := r1
      cases b with
      | true =>
        obtain ⟨q, es, h1, rfl, ys, h2, h3⟩ := a.env.own i d hi
        rw [hs] at h1
        cases h1
        refine .lock p ys h2 fun o hns => ?_
        have ex0 : Ext H (upd H p (.frz o (.lst ys))) := Ext.frz h2
        obtain ⟨a', rp⟩ := a.lockB (o := o) hi hs h2 hns
        have hpn : p ∉ owns rs xs := fun z => no p (by simpa [owns] using z) ⟨i, _, hi, hs⟩
        have ef : frzR ρ (.bor i) = ρ.set i (some (false, .list es)) := by
          unfold frzR
          simp only [hi]
        have ow : Owned σ ρ p := ⟨i, _, hi, hs⟩
        have sub : ∀ q, Owned σ (ρ.set i (some (false, .list es))) q → Owned σ ρ q := fun q ⟨j, e, g1, g2⟩ => by
          by_cases z : i = j
          · subst z
            rw [List.getElem?_set_self (List.getElem?_eq_some_iff.mp hi).1] at g1
            cases g1
          · rw [List.getElem?_set_ne z] at g1
            exact ⟨j, e, g1, g2⟩
        have ef2 : frzRs ρ (fz (notB (.bor i :: rs)) (.bor i :: rs)) = frzRs (ρ.set i (some (false, .list es))) (fz (notB rs) rs) := by
          show frzRs (frzR ρ (.bor i)) _ = _
          rw [ef]
        refine frz_b R a' (rr.locked h2 hpn) (by simpa [owns] using nd) (fun q hq w => no q (by simpa [owns] using hq) (sub q w)) (by rw [← ef]; exact f.frz) fun H' ex ke st pn => k H' (ex0.trans ex) (fun b ob e n => ?_) (by rw [ef2]; exact st) (by rw [ef2]; exact .sh (rp.ext ex) pn)
        have hb : b ≠ p := fun z => n (by rw [z]; exact ow)
        exact ke b ob (by rw [upd_ne hb]; exact e) fun w => n (sub b w)
      | false =>
        have ef : frzR ρ (.bor i) = ρ := by
          unfold frzR
          simp only [hi]
        obtain ⟨x, h1, h2⟩ := a.env.sh i d hi
        rw [hs] at h1
        cases h1
        have ef2 : frzRs ρ (fz (notB (.bor i :: rs)) (.bor i :: rs)) = frzRs ρ (fz (notB rs) rs) := by
          show frzRs (frzR ρ (.bor i)) _ = _
          rw [ef]
        exact frz_b R a rr (by simpa [owns] using nd) (fun p hp => no p (by simpa [owns] using hp)) f fun H' ex ke st pn => k H' ex ke (by rw [ef2]; exact st) (by rw [ef2]; exact .sh (h2.ext ex) pn)
/-- what waits goes on waiting -/
theorem Pnd.stay {p : Option Addr} : ∀ {rs : List Res} {xs : List V}, Pnd K H0 σ ρ H rs xs → Ext H H' → (∀ a o, H a = some o → ¬ Owned σ ρ a → H' a = some o) → (∀ a, Owned σ' ρ' a → Owned σ ρ a ∨ some a = p) → (∀ a, some a = p → a ∉ owns rs xs) → Pnd K H0 σ' ρ' H' rs xs
  | _, _, .nil, _, _, _, _ => .nil
  | _, _, .sh h r, ex, ke, ow, hp => .sh (h.ext ex) (r.stay ex ke ow fun a e => by simpa [owns] using hp a e)
  | _, _, .own (p := q) ⟨ys, h1, h2⟩ h3 h4 h5 r, ex, ke, ow, hp => by
    refine .own ⟨ys, ke _ _ h1 h4, h2.ext ex⟩ h3 (fun z => ?_) h5 (r.stay ex ke ow fun a e z => hp a e (by simp only [owns, List.mem_cons]; exact .inr z))
    rcases ow q z with w | w
    · exact h4 w
    · exact hp q w (by simp [owns])
/-- a list is locked, the others wait -/
theorem Pnd.locked {p : Addr} {ys : List V} {o : Obj} (h : H p = some (.lst ys)) : ∀ {rs : List Res} {xs : List V}, Pnd K H0 σ ρ H rs xs → p ∉ owns rs xs → Pnd K H0 σ ρ (upd H p (.frz o (.lst ys))) rs xs
  | _, _, .nil, _ => .nil
  | _, _, .sh a r, n => .sh (a.ext (Ext.frz h)) (Pnd.locked h r (by simpa [owns] using n))
  | _, _, .own (p := q) ⟨zs, h1, h2⟩ h3 h4 h5 r, n => by
    simp only [owns, List.mem_cons, not_or] at n
    exact .own ⟨zs, by rw [upd_ne (fun z => n.1 z.symm)]; exact h1, h2.ext (Ext.frz h)⟩ h3 h4 h5 (Pnd.locked h r n.2)
theorem Stw.lockN {p : Addr} {ys : List V} {o : Obj} (a : Stw K mp σ0 ρ0 H0 σ ρ H) (h : H p = some (.lst ys)) (h0 : H0 p = none) (hn : ¬ Owned σ ρ p) : Stw K mp σ0 ρ0 H0 σ ρ (upd H p (.frz o (.lst ys))) := by
  have ex : Ext H (upd H p (.frz o (.lst ys))) := Ext.frz h
  refine ⟨⟨a.env.len, fun i d e => ?_, fun i d e => ?_, a.env.inj⟩, fun b ob e n => ?_, a.less, fun b ob e => ?_, a.fr⟩
  · obtain ⟨x, h1, h2⟩ := a.env.sh i d e
    exact ⟨x, h1, h2.ext ex⟩
  · obtain ⟨q, ds, h1, h2, xs, h3, h4⟩ := a.env.own i d e
    have hq : q ≠ p := fun z => hn ⟨i, d, e, by rw [← z]; exact h1⟩
    exact ⟨q, ds, h1, h2, xs, by rw [upd_ne hq]; exact h3, h4.ext ex⟩
  · rw [upd_ne (fun z => by rw [z, h0] at e; cases e)]
    exact a.keep b ob e n
  · rw [upd_ne (fun z => by rw [z, h0] at e; cases e)]
    exact a.there b ob e
/-- a slot takes a waiting list -/
theorem stw_own2 {i : Nat} {p : Addr} {l : List PyData} (a : Stw K mp σ0 ρ0 H0 σ ρ H) (no' : ¬ Owned σ ρ p) (hi : i < ρ.length) (hm : i ∉ mp) (o : OwnL K H p l) (hn : H0 p = none) : Stw K mp σ0 ρ0 H0 (σ.set i (some (V.ref p))) (ρ.set i (some (true, .list l))) H := by
  have hs : i < σ.length := by rw [← a.env.len]; exact hi
  have no : ∀ {j : Nat} {e : PyData}, ρ[j]? = some (some (true, e)) → σ[j]? ≠ some (some (V.ref p)) := fun {j e} h1 h2 => no' ⟨j, e, h1, h2⟩
  refine ⟨⟨by rw [List.length_set, List.length_set]; exact a.env.len, fun j e q => ?_, fun j e q => ?_, fun j k e f q h1 h2 h3 h4 => ?_⟩, a.keep, fun b ⟨j, e, h1, h2⟩ => ?_, a.there, fun j hj => (List.getElem?_set_ne fun z => hm (by rw [z]; exact hj)).trans (a.fr j hj)⟩
  · by_cases z : i = j
    · subst z
      rw [List.getElem?_set_self hi] at q
      cases q
    · rw [List.getElem?_set_ne z] at q
      rw [List.getElem?_set_ne z]
      exact a.env.sh j e q
  · by_cases z : i = j
    · subst z
      rw [List.getElem?_set_self hi] at q
      cases q
      exact ⟨p, l, List.getElem?_set_self hs, rfl, o⟩
    · rw [List.getElem?_set_ne z] at q
      rw [List.getElem?_set_ne z]
      exact a.env.own j e q
  · by_cases z1 : i = j
    · by_cases z2 : i = k
      · rw [← z1, z2]
      · subst z1
        rw [List.getElem?_set_self hs] at h3
        cases h3
        rw [List.getElem?_set_ne z2] at h2 h4
        exact (no h2 h4).elim
    · rw [List.getElem?_set_ne z1] at h1 h3
      by_cases z2 : i = k
      · subst z2
        rw [List.getElem?_set_self hs] at h4
        cases h4
        exact (no h1 h3).elim
      · rw [List.getElem?_set_ne z2] at h2 h4
        exact a.env.inj j k e f q h1 h2 h3 h4
  · by_cases z : i = j
    · subst z
      rw [List.getElem?_set_self hs] at h2
      cases h2
      exact .inr hn
    · rw [List.getElem?_set_ne z] at h1 h2
      exact a.less b ⟨j, e, h1, h2⟩
theorem owned_set {i : Nat} {x : V} {y : Bool × PyData} {a : Addr} (hs : i < σ.length) (h : Owned (σ.set i (some x)) (ρ.set i (some y)) a) : Owned σ ρ a ∨ x = .ref a := by
  obtain ⟨j, e, h1, h2⟩ := h
  by_cases z : i = j
  · subst z
    rw [List.getElem?_set_self hs] at h2
    cases h2
    exact .inr rfl
  · rw [List.getElem?_set_ne z] at h1 h2
    exact .inl ⟨j, e, h1, h2⟩
/-- a name takes what waits for it -/
theorem pnd_var {i : Nat} {r : Res} {x : V} {rs : List Res} {xs : List V} {ρ2 : Env} (a : Stw K mp σ0 ρ0 H0 σ ρ H) (p : Pnd K H0 σ ρ H (r :: rs) (x :: xs)) (e : asgV mp i r ρ = some ρ2) : Stw K mp σ0 ρ0 H0 (σ.set i (some x)) ρ2 H ∧ Pnd K H0 (σ.set i (some x)) ρ2 H rs xs := by
  unfold asgV at e
  split at e
  · cases e
  · rename_i hc
    simp only [Bool.or_eq_true, Bool.not_eq_true', decide_eq_false_iff_not, not_or, Decidable.not_not, List.contains_eq_mem, decide_eq_true_eq] at hc
    obtain ⟨hm, hi⟩ := hc
    have hs : i < σ.length := by rw [← a.env.len]; exact hi
    cases p with
    | sh h r =>
      cases e
      refine ⟨a.trans ((stp_set a.env hi h).w fun j hj => List.getElem?_set_ne fun z => hm (by rw [z]; exact hj)), r.stay (p := none) (Ext.refl H) (fun _ _ e _ => e) (fun b w => .inl ((stp_set a.env hi h).less b w)) fun _ z => nomatch z⟩
    | own o hn no hd r =>
      rename_i p l
      cases e
      refine ⟨stw_own2 a no hi hm o hn, r.stay (p := some p) (Ext.refl H) (fun _ _ e _ => e) (fun b w => ?_) fun b z => by cases z; exact hd⟩
      rcases owned_set hs w with w | w
      · exact .inl w
      · cases w
        exact .inr rfl
end

/-! ### targets in a row -/
section
variable {X : Cx} {mp : List Nat} {Φ : Ph} {Mu : Nat → List Bool} {c : Ck}
def chkPt (c : Ck) (p : Pt) (e : Expr) : Bool := match p with
  | .tg t => chkT c t e
  | .sub i k => (match e with
    | .Subscript (.Name x _) ek _ => decide (c.N[i]? = some x) && visB c x && plN x && notSl ek && chkE c k ek
    | _ => false)
def chkPts (c : Ck) : List Pt → List Expr → Bool
  | [], [] => true
  | p :: ps, e :: es => ns e && chkPt c p e && chkPts c ps es
  | _, _ => false
def gPs (K : MKx) (Φ : Ph) (Mu : Nat → List Bool) (mp : List Nat) (ts : List Pt) : TGs := fun vs σ H Q => ∃ σ0 ρ0 H0 rs ρ ρ', Stw K mp σ0 ρ0 H0 σ ρ H ∧ Pnd K H0 σ ρ H rs vs ∧ asgPs Φ Mu mp ts rs ρ = some ρ' ∧ ∀ σ' H', Stw K mp σ0 ρ0 H0 σ' ρ' H' → Q σ' H'
theorem chkT_var {i : Nat} {e : Expr} (h : chkT c (.var i) e = true) : ∃ x p, e = .Name x p ∧ c.N[i]? = some x ∧ locB c x = true := by
  cases e <;> try (cases h; done)
  rename_i x p
  have h2 : (decide (c.N[i]? = some x) && locB c x) = true := h
  rw [Bool.and_eq_true, decide_eq_true_eq] at h2
  exact ⟨x, p, rfl, h2.1, h2.2⟩
theorem chkPt_sub {i : Nat} {k : Ex} {e : Expr} (h : chkPt c (.sub i k) e = true) : ∃ x px ek p2, e = .Subscript (.Name x px) ek p2 ∧ c.N[i]? = some x ∧ visB c x = true ∧ plN x = true ∧ notSl ek = true ∧ chkE c k ek = true := by
  unfold chkPt at h
  simp only at h
  split at h
  · simp only [Bool.and_eq_true, decide_eq_true_eq] at h
    obtain ⟨⟨⟨⟨hi, hv⟩, hpl⟩, hsl⟩, hk⟩ := h
    exact ⟨_, _, _, _, rfl, hi, hv, hpl, hsl, hk⟩
  · cases h
theorem asgPs_sub {i : Nat} {k : Ex} {ts : List Pt} {d : PyData} {rs : List Res} {ρ ρ' : Env} (e : asgPs Φ Mu mp (.sub i k :: ts) (.sh d :: rs) ρ = some ρ') : ∃ d0 rk ρ1 j xs n, ρ[i]? = some (some (true, d0)) ∧ den Φ Mu mp k ρ = some (rk, ρ1) ∧ valOf ρ1 rk = some (.int j) ∧ ρ1[i]? = some (some (true, .list xs)) ∧ L2.ixN xs.length j = some n ∧ asgPs Φ Mu mp ts rs (ρ1.set i (some (true, .list (xs.set n d)))) = some ρ' := by
  unfold asgPs at e
  split at e
  · rename_i d0 h0
    split at e
    · rename_i rk ρ1 h1
      split at e
      · rename_i j xs h2 h3
        split at e
        · rename_i n h4
          exact ⟨d0, rk, ρ1, j, xs, n, h0, h1, h2, valOf_bor h3, h4, e⟩
        · cases e
      · cases e
    · cases e
  · cases e
theorem asgPs_subO {i : Nat} {k : Ex} {ts : List Pt} {d : PyData} {rs : List Res} {ρ ρ' : Env} (e : asgPs Φ Mu mp (.sub i k :: ts) (.own d :: rs) ρ = some ρ') : ∃ d0 rk ρ1 j xs n, ρ[i]? = some (some (true, d0)) ∧ den Φ Mu mp k ρ = some (rk, ρ1) ∧ valOf ρ1 rk = some (.int j) ∧ ρ1[i]? = some (some (true, .list xs)) ∧ L2.ixN xs.length j = some n ∧ asgPs Φ Mu mp ts rs (ρ1.set i (some (true, .list (xs.set n d)))) = some ρ' := by
  unfold asgPs at e
  split at e
  · rename_i d0 h0
    split at e
    · rename_i rk ρ1 h1
      split at e
      · rename_i j xs h2 h3
        split at e
        · rename_i n h4
          exact ⟨d0, rk, ρ1, j, xs, n, h0, h1, h2, valOf_bor h3, h4, e⟩
        · cases e
      · cases e
    · cases e
  · cases e
theorem pgs_par (G : Gd Φ Mu c X) : ∀ {ts : List Pt} {es : List Expr}, chkPts c ts es = true → PGs X es (gPs (kw X) Φ Mu mp ts) ∧ es.all ns = true
  | [], [], _ => by
    refine ⟨pgs_imp pgs_nil fun vs σ H Q ⟨σ0, ρ0, H0, rs, ρ, ρ', S, p, e, k⟩ => ?_, rfl⟩
    cases p with
    | nil =>
      cases e
      exact ⟨rfl, k _ _ S⟩
    | sh => cases e
    | own => cases e
  | [], _ :: _, h => by cases h
  | _ :: _, [], h => by cases h
  | p :: ps, e :: es, h => by
    have h1 : (ns e && chkPt c p e && chkPts c ps es) = true := h
    simp only [Bool.and_eq_true] at h1
    obtain ⟨⟨hn, hp⟩, hr⟩ := h1
    obtain ⟨g1, g2⟩ := pgs_par G hr
    refine ⟨?_, by rw [List.all_cons, hn, g2]; rfl⟩
    have hs : (assignEach (e :: es) X.env).map (·.2) = assign e X.env :: (assignEach es X.env).map (·.2) := by
      rw [asg_cons hn]
      rfl
    cases p with
    | tg t =>
      cases t with
      | var i =>
        obtain ⟨x, px, rfl, hi, hl⟩ := chkT_var (show chkT c (.var i) e = true from hp)
        obtain ⟨l1, l2⟩ := G.toGd0.loc hl
        refine pgs_imp (pgs_cons (pg_name (pos := px) G.nd (by rw [G.n]; exact hi) l1 l2) g1 hs) fun vs σ H Q ⟨σ0, ρ0, H0, rs, ρ, ρ', S, pn, ea, k⟩ => ?_
        cases rs with
        | nil => cases ea
        | cons r rs =>
          cases vs with
          | nil => cases pn
          | cons v vs =>
            unfold asgPs at ea
            split at ea
            · rename_i ρ1 e1
              obtain ⟨S1, p1⟩ := pnd_var S pn e1
              exact ⟨v, vs, rfl, σ0, ρ0, H0, rs, ρ1, ρ', S1, p1, ea, k⟩
            · cases ea
      | tup t =>
        refine pgs_imp (pgs_cons (pg_of (mp := mp) (t := .tup t) G.toGd0 hp) g1 hs) fun vs σ H Q ⟨σ0, ρ0, H0, rs, ρ, ρ', S, pn, ea, k⟩ => ?_
        cases pn with
        | nil => cases ea
        | own => cases ea
        | @sh x d rs xs rp pn =>
          unfold asgPs at ea
          split at ea
          · rename_i ρ1 e1
            refine ⟨x, xs, rfl, d, ρ, ρ1, rp, S.env, e1, fun σ1 H1 s1 f1 => ?_⟩
            exact ⟨σ0, ρ0, H0, rs, ρ1, ρ', S.trans (s1.w fun j hj => f1.2 j fun z => mp_of_asgT e1 j z hj), pn.stay (p := none) (s1.ext S.env) s1.keep (fun b w => .inl (s1.less b w)) (fun _ z => nomatch z), ea, k⟩
          · cases ea
    | sub i kk =>
      obtain ⟨x, px, ek, p2, rfl, hi, hv, hpl, hsl, hk⟩ := chkPt_sub hp
      obtain ⟨q1, q3⟩ := plN_of hpl
      have ho := pe_var (X := X) (i := i) (pos := px) (by rw [G.n]; exact hi) (G.toGd0.vis hv) q1 q3
      have ha : ∀ v, assign (.Subscript (.Name x px) ek p2) X.env v = (do
          let ov ← holding [v] (eval (.Name x px) X.env)
          let iv ← holding [v, ov] (eval ek X.env)
          standAt p2
          holding [v, ov, iv] (setItem ov iv v)
          release [v, ov, iv] []) := fun v => by cases ek <;> first | rfl | cases hsl
      refine pgs_imp (pgs_cons (pg_sub ho (PE.lk G.sys (se_ok (mp := mp) G hk).1) set_list ha) g1 hs) fun vs σ H Q ⟨σ0, ρ0, H0, rs, ρ, ρ', S, pn, ea, k⟩ => ?_
      cases pn with
      | nil => cases ea
      | @own pl l rs xs o0 n0 no nm pn =>
        obtain ⟨d0, rk, ρ1, j, ys, n, e0, e1, e2, e3, e4, ea⟩ := asgPs_subO ea
        obtain ⟨p, l0, hs0, _, _⟩ := S.env.own i d0 e0
        refine ⟨.ref pl, xs, rfl, .ref p, hs0, ρ, rk, ρ1, S.env, e1, fun iv H1 o1 r1 => ?_⟩
        obtain ⟨zs, z1, z2⟩ := o0
        have zk : H1 pl = some (.lst zs) := o1.keep _ _ z1 no
        have no1 : ¬ Owned σ ρ1 pl := fun z => no (o1.less _ z)
        refine .lock pl zs zk fun ob hns => .done ?_
        have S2 := (S.trans (Out.w o1)).lockN (o := ob) zk n0 no1
        have pn2 := (pn.stay (p := none) (o1.ext S.env) o1.keep (fun b w => .inl (o1.less b w)) (fun _ z => nomatch z)).locked (o := ob) zk nm
        have ex1 := Ext.frz (o := .frz ob (.lst zs)) zk
        obtain ⟨p', l1, g1', g2', vs', g3, g4⟩ := S2.env.own i _ e3
        rw [hs0] at g1'
        cases g1'
        cases g2'
        have hiv := (r1.readable o1.env e2).int
        subst hiv
        have rp : Rep (kw X) (upd H1 pl (.frz ob (.lst zs))) (.ref pl) (.list l) := .lst upd_same hns (z2.ext ((o1.ext S.env).trans ex1))
        have o2 := stp_mut (Out.refl S2.env) e3 hs0 ⟨vs', g3⟩ (g4.set rp n)
        exact ⟨p, vs', j, n, rfl, rfl, g3, by rw [g4.length]; exact e4, σ0, ρ0, H0, rs, _, ρ', S2.trans (Out.w o2), pn2.stay (p := none) (o2.ext S2.env) o2.keep (fun b w => .inl (o2.less b w)) (fun _ z => nomatch z), ea, k⟩
      | @sh x d rs xs rp pn =>
        obtain ⟨d0, rk, ρ1, j, ys, n, e0, e1, e2, e3, e4, ea⟩ := asgPs_sub ea
        obtain ⟨p, l0, hs0, _, _⟩ := S.env.own i d0 e0
        refine ⟨x, xs, rfl, .ref p, hs0, ρ, rk, ρ1, S.env, e1, fun iv H1 o1 r1 => .done ?_⟩
        obtain ⟨p', l, g1', g2', vs', g3, g4⟩ := o1.env.own i _ e3
        rw [hs0] at g1'
        cases g1'
        cases g2'
        have hiv := (r1.readable o1.env e2).int
        subst hiv
        have o2 := stp_mut o1 e3 hs0 ⟨vs', g3⟩ (g4.set (rp.ext (o1.ext S.env)) n)
        refine ⟨p, vs', j, n, rfl, rfl, g3, by rw [g4.length]; exact e4, σ0, ρ0, H0, rs, _, ρ', S.trans (Out.w o2), pn.stay (p := none) (o2.ext S.env) o2.keep (fun b w => .inl (o2.less b w)) (fun _ z => nomatch z), ea, k⟩
end
end MP

/-! MP: parallel assignments as statements. -/
namespace MP
open PySem PySem.Spec PyProof.Rows L2
def isStar : Expr → Bool
  | .Starred _ _ => true
  | _ => false
def swNames (c : Ck) (ts : List Expr) : List Str := ts.filterMap fun
  | .Name id pos => if c.sc.names.lookup id == some .local && pos.line == (ts.head?.map (·.pos.line)).getD 0 then some id else none
  | _ => none
/-- whether a tuple is stored from the right -/
def swK (c : Ck) (ts vs : List Expr) : Option (Option (List Str)) :=
  if !(ts.length == 2 || ts.length == 3) || vs.length != ts.length then some none
  else if vs.any isStar then some none
  else if (swNames c ts).length != ts.length || (swNames c ts).eraseDups.length != (swNames c ts).length then some none
  else if vs.all (foldedForSure 8) then some none
  else if vs.all (constantsAlone 8) then none
  else some (some (swNames c ts))
theorem blockKind_fn {env : PySem.Env} (h : env.scope.kind = .function) : env.blockKind = .function := by
  unfold Env.blockKind
  rw [h]
  rfl
theorem swK_ok {c : Ck} {ts vs : List Expr} {r : Option (List Str)} {env : PySem.Env} {k k2 : Nat} {p p2 : Pos} (h : swK c ts vs = some r) (hs : env.scope = c.sc) (hk : env.scope.kind = .function) : swappedStores [.Tuple ts k p] (.Tuple vs k2 p2) env = pure r := by
  have e1 : swNames c ts = ts.filterMap fun
      | .Name id pos => if env.kindOf id == some .local && pos.line == (ts.head?.map (·.pos.line)).getD 0 then some id else none
      | _ => none := by
    unfold swNames Env.kindOf
    rw [hs]
  have e2 : (env.blockKind != .function) = false := by
    rw [blockKind_fn hk]
    rfl
  unfold swK at h
  rw [e1] at h
  unfold swappedStores
  simp only [e2, Bool.or_false]
  split at h
  · rename_i hh
    cases h
    rw [if_pos hh]
  · rename_i hh
    rw [if_neg hh]
    rw [← e1] at h
    have e3 : (ts.filterMap fun
      | .Name id pos => if env.kindOf id == some .local && pos.line == (ts.head?.map (·.pos.line)).getD 0 then some id else none
      | _ => none) = swNames c ts := e1.symm
    change (if vs.any isStar = true then pure none else if ((ts.filterMap fun
      | .Name id pos => if env.kindOf id == some .local && pos.line == (ts.head?.map (·.pos.line)).getD 0 then some id else none
      | _ => none).length != ts.length || (ts.filterMap fun
      | .Name id pos => if env.kindOf id == some .local && pos.line == (ts.head?.map (·.pos.line)).getD 0 then some id else none
      | _ => none).eraseDups.length != (ts.filterMap fun
      | .Name id pos => if env.kindOf id == some .local && pos.line == (ts.head?.map (·.pos.line)).getD 0 then some id else none
      | _ => none).length) = true then pure none else if vs.all (foldedForSure 8) = true then pure none else if vs.all (constantsAlone 8) = true then unsupported _ else pure (some (ts.filterMap fun
      | .Name id pos => if env.kindOf id == some .local && pos.line == (ts.head?.map (·.pos.line)).getD 0 then some id else none
      | _ => none))) = pure r
    rw [e3]
    split at h
    · rename_i h3
      cases h
      rw [if_pos h3]
    · rename_i h3
      rw [if_neg h3]
      split at h
      · rename_i h4
        cases h
        rw [if_pos h4]
      · rename_i h4
        rw [if_neg h4]
        split at h
        · rename_i h5
          cases h
          rw [if_pos h5]
        · rename_i h5
          rw [if_neg h5]
          split at h
          · cases h
          · rename_i h6
            cases h
            rw [if_neg h6]
section
variable {X : Cx} {mp : List Nat} {Φ : Ph} {Mu : Nat → List Bool} {c : Ck}
theorem exec_par {ts : List Pt} {as : Exs} {ρ : Env} {f : Fl} {ρ' : Env} (e : exec Φ Mu mp (.par ts as) ρ = some (f, ρ')) : f = .nx ∧ ∃ rs ρ1 rs', dens Φ Mu mp as ρ = some (rs, ρ1) ∧ FxR ρ1 rs rs' ∧ asgPs Φ Mu mp ts rs' (frzRs ρ1 (fz (notB rs) rs)) = some ρ' := by
  rw [exec] at e
  split at e
  · rename_i rs ρ1 h1
    split at e
    · rename_i rs' h2
      split at e
      · rename_i ρ2 h3
        cases e
        exact ⟨rfl, rs, ρ1, rs', h1, fxR_of h2, h3⟩
      · cases e
    · cases e
  · cases e
theorem asgPs_len : ∀ {ts : List Pt} {rs : List Res} {ρ ρ' : Env}, asgPs Φ Mu mp ts rs ρ = some ρ' → ts.length = rs.length
  | [], [], _, _, _ => rfl
  | [], _ :: _, _, _, e => by cases e
  | .tg (.var i) :: ts, [], _, _, e => by cases e
  | .tg (.tup t) :: ts, [], _, _, e => by cases e
  | .sub i k :: ts, [], _, _, e => by cases e
  | .tg (.var i) :: ts, r :: rs, _, _, e => by
    unfold asgPs at e
    split at e
    · rw [List.length_cons, List.length_cons, asgPs_len e]
    · cases e
  | .tg (.tup t) :: ts, .sh d :: rs, _, _, e => by
    unfold asgPs at e
    split at e
    · rw [List.length_cons, List.length_cons, asgPs_len e]
    · cases e
  | .tg (.tup t) :: ts, .own d :: rs, _, _, e => by cases e
  | .tg (.tup t) :: ts, .bor d :: rs, _, _, e => by cases e
  | .sub i k :: ts, .sh d :: rs, _, _, e => by
    obtain ⟨_, _, _, _, _, _, _, _, _, _, _, e⟩ := asgPs_sub e
    rw [List.length_cons, List.length_cons, asgPs_len e]
  | .sub i k :: ts, .own d :: rs, _, _, e => by
    obtain ⟨_, _, _, _, _, _, _, _, _, _, _, e⟩ := asgPs_subO e
    rw [List.length_cons, List.length_cons, asgPs_len e]
  | .sub i k :: ts, .bor d :: rs, _, _, e => by cases e
theorem pnd_len {K : MKx} {H0 : Hp} {σ : L2.St} {ρ : Env} {H : Hp} : ∀ {rs : List Res} {xs : List V}, Pnd K H0 σ ρ H rs xs → rs.length = xs.length
  | _, _, .nil => rfl
  | _, _, .sh _ r => by rw [List.length_cons, List.length_cons, pnd_len r]
  | _, _, .own _ _ _ _ r => by rw [List.length_cons, List.length_cons, pnd_len r]
theorem chkPts_len : ∀ {ts : List Pt} {es : List Expr}, chkPts c ts es = true → ts.length = es.length
  | [], [], _ => rfl
  | [], _ :: _, h => by cases h
  | _ :: _, [], h => by cases h
  | p :: ps, e :: es, h => by
    have h1 : (ns e && chkPt c p e && chkPts c ps es) = true := h
    rw [Bool.and_eq_true] at h1
    rw [List.length_cons, List.length_cons, chkPts_len h1.2]
/-- stored from the left -/
theorem ps_parL {ts : List Pt} {as : Exs} {tes ves : List Expr} {k k2 : Nat} {tp p2 pos : Pos} (G : Gd Φ Mu c X) (hk : X.env.scope.kind = .function) (hsw : swK c tes ves = some none) (ht : chkPts c ts tes = true) (h : PEs Φ Mu mp X as ves) (hz : tes.length ≤ 100) :
    PS X (.Assign [.Tuple tes k tp] (.Tuple ves k2 p2) pos) (tS (kw X) mp (exec Φ Mu mp (.par ts as))) := by
  obtain ⟨g1, g2⟩ := pgs_par (Φ := Φ) (Mu := Mu) (mp := mp) G ht
  obtain ⟨z1, z2⟩ := asg_len (env := X.env) g2
  refine PS.imp (ps_asg (pe_tup (x1 := k2) (pos := p2) (PA.lk G.sys h.pa)) (pg_tup (pos := tp) (k := k) G.calm g1 z1 z2) swT (swK_ok hsw G.sc hk) rfl) fun Dn σ H ⟨ρ, f, ρ', R, e1, kk⟩ => ?_
  obtain ⟨rfl, rs, ρ1, rs', h1, h2, h3⟩ := exec_par e1
  have hs := sizeLine_eq
  refine ⟨ρ, rs, ρ1, R, h1, fun xs H1 o1 r1 nd => frz_b R o1 r1 nd (not_owned R o1 r1) h2 fun H2 ex ke o2 pn => ?_⟩
  have hl : xs.length = tes.length := by rw [← pnd_len pn, ← asgPs_len h3, chkPts_len ht]
  refine ⟨by omega, fun q hq => ⟨q, xs, rfl, .of upd_same, hl, σ, ρ, H, rs', _, ρ', (Out.w o2).trans (Out.w (Out.more o2.env (kept_upd hq))), pn.stay (p := none) (Ext.upd hq) (fun a o e _ => kept_upd hq a o e) (fun b w => .inl w) (fun _ z => nomatch z), h3, fun σ' H' s' => kk σ' H' s'⟩⟩
/-- two, three names, stored from the right -/
theorem ps_parR2 {i j : Nat} {x y : Str} {as : Exs} {a b : Expr} {k k2 : Nat} {tp p2 pos px py : Pos} (G : Gd Φ Mu c X) (hk : X.env.scope.kind = .function) (hsw : swK c [.Name x px, .Name y py] [a, b] = some (some [x, y])) (hi : c.N[i]? = some x) (hj : c.N[j]? = some y) (hij : i ≠ j)
    (hx : c.sc.names.lookup x = some .local) (hy : c.sc.names.lookup y = some .local) (h : PEs Φ Mu mp X as [a, b]) : PS X (.Assign [.Tuple [.Name x px, .Name y py] k tp] (.Tuple [a, b] k2 p2) pos) (tS (kw X) mp (exec Φ Mu mp (.par [.tg (.var i), .tg (.var j)] as))) := by
  refine PS.imp (ps_par G.calm G.nd (by rw [G.n]; exact hi) (by rw [G.n]; exact hj) hij (by rw [G.sc]; exact hx) (by rw [G.sc]; exact hy) (PA.lk G.sys h.pa) (swK_ok hsw G.sc hk) swT) fun Dn σ H ⟨ρ, f, ρ', R, e1, kk⟩ => ?_
  obtain ⟨rfl, rs, ρ1, rs', h1, h2, h3⟩ := exec_par e1
  refine ⟨ρ, rs, ρ1, R, h1, fun xs H1 o1 r1 nd => frz_b R o1 r1 nd (not_owned R o1 r1) h2 fun H2 ex ke o2 pn => ?_⟩
  have hl : rs'.length = 2 := (asgPs_len h3).symm
  obtain ⟨r, r2, rfl⟩ := len_two hl
  have hl2 := pnd_len pn
  obtain ⟨v, w, rfl⟩ := len_two hl2.symm
  unfold asgPs at h3
  split at h3
  · rename_i ρ2 e2
    unfold asgPs at h3
    split at h3
    · rename_i ρ3 e3
      cases h3
      obtain ⟨S1, p1⟩ := pnd_var (Out.w o2) pn e2
      obtain ⟨S2, _⟩ := pnd_var S1 p1 e3
      exact ⟨v, w, rfl, kk _ _ S2⟩
    · cases h3
  · cases h3
theorem len_three {α : Type} : ∀ {xs : List α}, xs.length = 3 → ∃ x y z, xs = [x, y, z]
  | [x, y, z], _ => ⟨x, y, z, rfl⟩
theorem ps_parR3 {i j l : Nat} {x y z : Str} {as : Exs} {a b d : Expr} {k k2 : Nat} {tp p2 pos px py pz : Pos} (G : Gd Φ Mu c X) (hk : X.env.scope.kind = .function) (hsw : swK c [.Name x px, .Name y py, .Name z pz] [a, b, d] = some (some [x, y, z])) (hi : c.N[i]? = some x) (hj : c.N[j]? = some y) (hl : c.N[l]? = some z) (hij : i ≠ j) (hil : i ≠ l) (hjl : j ≠ l)
    (hx : c.sc.names.lookup x = some .local) (hy : c.sc.names.lookup y = some .local) (hz : c.sc.names.lookup z = some .local) (h : PEs Φ Mu mp X as [a, b, d]) : PS X (.Assign [.Tuple [.Name x px, .Name y py, .Name z pz] k tp] (.Tuple [a, b, d] k2 p2) pos) (tS (kw X) mp (exec Φ Mu mp (.par [.tg (.var i), .tg (.var j), .tg (.var l)] as))) := by
  refine PS.imp (ps_par3 G.calm G.nd (by rw [G.n]; exact hi) (by rw [G.n]; exact hj) (by rw [G.n]; exact hl) hij hil hjl (by rw [G.sc]; exact hx) (by rw [G.sc]; exact hy) (by rw [G.sc]; exact hz) (PA.lk G.sys h.pa) (swK_ok hsw G.sc hk) swT) fun Dn σ H ⟨ρ, f, ρ', R, e1, kk⟩ => ?_
  obtain ⟨rfl, rs, ρ1, rs', h1, h2, h3⟩ := exec_par e1
  refine ⟨ρ, rs, ρ1, R, h1, fun xs H1 o1 r1 nd => frz_b R o1 r1 nd (not_owned R o1 r1) h2 fun H2 ex ke o2 pn => ?_⟩
  have hl' : rs'.length = 3 := (asgPs_len h3).symm
  obtain ⟨r, r2, r3, rfl⟩ := len_three hl'
  have hl2 := pnd_len pn
  obtain ⟨v, w, u, rfl⟩ := len_three hl2.symm
  unfold asgPs at h3
  split at h3
  · rename_i ρ2 e2
    unfold asgPs at h3
    split at h3
    · rename_i ρ3 e3
      unfold asgPs at h3
      split at h3
      · rename_i ρ4 e4
        cases h3
        obtain ⟨S1, p1⟩ := pnd_var (Out.w o2) pn e2
        obtain ⟨S2, p2⟩ := pnd_var S1 p1 e3
        obtain ⟨S3, _⟩ := pnd_var S2 p2 e4
        exact ⟨v, w, u, rfl, kk _ _ S3⟩
      · cases h3
    · cases h3
  · cases h3
end
end MP

/-! MP: xs[k] += e. -/
namespace MP
open PySem PySem.Spec PyProof.Rows L2
/-- xs[i] of a list, by values -/
def gIxL (K : MKx) : V → V → Hp → VK → Prop := fun x y H Q => ∃ p xs i v, x = .ref p ∧ y = .int i ∧ SqL K H p xs ∧ atI xs i = some v ∧ Q v H
section
variable {X : Cx} {mp : List Nat} {Φ : Ph} {Mu : Nat → List Bool} {c : Ck}
theorem pget_list : PGet X (gIxL (kw X)) := by
  intro pins s σ H x y v u Q I rx ry h
  obtain ⟨p, xs, i, z, rfl, rfl, hq, he, q⟩ := h
  cases rx
  obtain ⟨t, rfl⟩ := ry
  obtain ⟨its, r, pl, hz⟩ := I.list hq
  obtain ⟨j, h1, h2, h3, h4, h5⟩ := atI_get he
  obtain ⟨w, ew, rw'⟩ := r.get h2
  have hl := r.length
  have hn := line63
  have fin : EP X pins σ Q w s := ⟨z, H, I, rw', q⟩
  by_cases h0 : 0 ≤ i
  · have hj : i.toNat = j := by
      rw [seqIndex_of h0 h5] at h1
      exact Option.some.inj h1
    exact wpAny_getItem_list pl.isList h0 (by omega) (by rw [hj]; simpa using ew) fin
  · have hj : (i + (its.toArray.size : Int)).toNat = j := by
      rw [seqIndex_neg (by omega) h4] at h1
      rw [List.size_toArray, ← hl]
      exact Option.some.inj h1
    exact wpAny_getItem_list_neg pl.isList (by omega) (by rw [List.size_toArray] <;> omega) (by omega) (by rw [hj]; simpa using ew) fin
theorem tip_add {K : MKx} {u v d : PyData} {x y : V} {H : Hp} {Q : VK} (hd : opAug .add u v = some d) (rx : Rep K H x u) (ry : Readable K H y v) (k : ∀ z H2, (∀ a ob, H a = some ob → H2 a = some ob) → Rep K H2 z d → Q z H2) : ipA K x y H Q := by
  unfold opAug at hd
  split at hd
  · cases hd
    cases rx
    cases ry.int
    exact .inl ⟨_, _, rfl, rfl, k _ H (fun _ _ q => q) (.int _)⟩
  · rename_i z
    cases z
  · split at hd
    · rename_i hz
      cases hd
      obtain ⟨p, vs, rfl, q1, r1⟩ := (Readable.tup (.inl rx))
      obtain ⟨p2, ws, rfl, q2, r2⟩ := ry.tup
      have hz' : vs.length + ws.length ≤ sizeLine := by rw [r1.length, r2.length]; exact of_decide_eq_true hz
      refine .inr ⟨p, p2, vs, ws, rfl, rfl, q1, q2, hz', fun e0 => ?_, fun _ e0 => ?_, fun _ _ p3 hp => ?_⟩
      · subst e0
        cases r1
        exact k _ H (fun _ _ e => e) (by simpa using (Rep.tup q2 r2))
      · subst e0
        cases r2
        exact k _ H (fun _ _ e => e) (by simpa using (Rep.tup q1 r1))
      · exact k _ _ (kept_upd hp) (new_tup hp (r1.append r2))
    · cases hd
  · cases hd
theorem tip_sub {K : MKx} {u v d : PyData} {x y : V} {H : Hp} {Q : VK} (hd : opAug .sub u v = some d) (rx : Rep K H x u) (ry : Readable K H y v) (k : ∀ z H2, (∀ a ob, H a = some ob → H2 a = some ob) → Rep K H2 z d → Q z H2) : ipI (fun i j => i - j) x y H Q := by
  unfold opAug at hd
  split at hd
  · rename_i z
    cases z
  · cases hd
    cases rx
    cases ry.int
    exact ⟨_, _, rfl, rfl, k _ H (fun _ _ q => q) (.int _)⟩
  · rename_i z
    cases z
  · cases hd
theorem dens2_bor {d : Ex} {i j : Nat} {ρ : Env} {rd : Res} {ρ' : Env} (e : dens Φ Mu mp (.cons (.var i) (.cons d .nil)) ρ = some ([.bor j, rd], ρ')) : j = i := by
  rw [dens] at e
  split at e
  · rename_i y ρ3 h3
    split at e
    · rename_i zs ρ4 h4
      simp only [Option.some.injEq, Prod.mk.injEq] at e
      obtain ⟨h2, _⟩ := e
      rw [List.cons.injEq] at h2
      have h5 := h2.1
      rcases fixB_eq ρ3 ρ4 y with q | ⟨i2, d2, q1, q2, _⟩
      · rw [q] at h5
        subst h5
        rcases (den_var h3).2 with ⟨z, _⟩ | ⟨_, z, _⟩
        · cases z
          rfl
        · cases z
      · rw [q2] at h5
        cases h5
    · cases e
  · cases e
theorem exec_aset {i : Nat} {k : Ex} {o : Bn} {a : Ex} {ρ : Env} {f : Fl} {ρ' : Env} (e1 : exec Φ Mu mp (.aset i k o a) ρ = some (f, ρ')) : ∃ rk ρ1 j xs n a0 r ρ2 b d ys m,
    dens Φ Mu mp (.cons (.var i) (.cons k .nil)) ρ = some ([.bor i, rk], ρ1) ∧ valOf ρ1 rk = some (.int j) ∧ valOf ρ1 (.bor i) = some (.list xs) ∧ L2.ixN xs.length j = some n ∧ xs[n]? = some a0 ∧ den Φ Mu mp a ρ1 = some (r, ρ2) ∧ valOf ρ2 r = some b ∧ opAug o a0 b = some d ∧
    valOf ρ2 (.bor i) = some (.list ys) ∧ L2.ixN ys.length j = some m ∧ f = .nx ∧ ρ' = ρ2.set i (some (true, .list (ys.set m d))) := by
  rw [exec] at e1
  split at e1
  · rename_i j0 rk ρ1 h1
    have hj := dens2_bor h1
    subst hj
    split at e1
    · rename_i j xs h2 h3
      split at e1
      · rename_i n h4
        split at e1
        · rename_i a0 r ρ2 h5 h6
          split at e1
          · rename_i b h7
            split at e1
            · rename_i d ys h8 h9
              split at e1
              · rename_i m h10
                cases e1
                exact ⟨rk, ρ1, j, xs, n, a0, r, ρ2, b, d, ys, m, h1, h2, h3, h4, h5, h6, h7, h8, h9, h10, rfl, rfl⟩
              · cases e1
            · cases e1
          · cases e1
        · cases e1
      · cases e1
    · cases e1
  · cases e1
theorem ps_aset_ok {i : Nat} {x : Str} {k a : Ex} {o : Bn} {op : Operator} {ek e : Expr} {px p2 pos : Pos} (G : Gd Φ Mu c X) (hi : c.N[i]? = some x) (hv : visB c x = true) (hp : plN x = true) (hsl : notSl ek = true) (ho : (o = .add ∧ op = .Add) ∨ (o = .sub ∧ op = .Sub)) (hk : PE X ek (tM (kw X) (den Φ Mu mp k))) (h : PE X e (tM (kw X) (den Φ Mu mp a))) :
    PS X (.AugAssign (.Subscript (.Name x px) ek p2) op e pos) (tS (kw X) mp (exec Φ Mu mp (.aset i k o a))) := by
  obtain ⟨p1, p3⟩ := plN_of hp
  have hov := pe_v (Φ := Φ) (Mu := Mu) (mp := mp) (pos := px) G.toGd0 hi hv p1 p3
  have ha : ∀ ov iv new, augStore ek ov iv new = (do holding [new, ov, iv] (setItem ov iv new); release [new, ov, iv] []; pure .next) := fun ov iv new => by cases ek <;> first | rfl | cases hsl
  have key : ∀ {ti : TIp}, (∀ (u v d : PyData) (x y : V) (H : Hp) (Q : VK), opAug o u v = some d → Rep (kw X) H x u → Readable (kw X) H y v → (∀ z H2, (∀ a ob, H a = some ob → H2 a = some ob) → Rep (kw X) H2 z d → Q z H2) → ti x y H Q) → PIp X op ti →
      PS X (.AugAssign (.Subscript (.Name x px) ek p2) op e pos) (tS (kw X) mp (exec Φ Mu mp (.aset i k o a))) := fun {ti} hf hip => by
    refine PS.imp (ps_augS hov hk pget_list h hip set_list ha) fun Dn σ H ⟨ρ, f, ρ', R, e1, kk⟩ => ?_
    obtain ⟨rk, ρ1, j, xs, n, a0, r, ρ2, b, d, ys, m, h1, h2, h3, h4, h5, h6, h7, h8, h9, h10, rfl, rfl⟩ := exec_aset e1
    refine args2 (Q := fun vs H2 => ∃ o' iv, vs = [o', iv] ∧ gIxL (kw X) o' iv H2 fun x3 H3 => tM (kw X) (den Φ Mu mp a) σ H3 fun y H4 => ti x3 y H4 fun z H5 => rSetL o' iv z H5 fun H6 => Dn.nx σ H6) ⟨ρ, _, ρ1, R, h1, fun vs H2 o1 r1 nd => ?_⟩ |> fun q => tM_mono q fun x1 H1 q => tM_mono q fun x2 H2 ⟨_, _, ev, q⟩ => by cases ev; exact q
    cases r1 with
    | @cons _ o' _ _ s1 r1 =>
      cases r1 with
      | @cons _ iv _ _ s2 r1 =>
        cases r1
        refine ⟨o', iv, rfl, ?_⟩
        obtain ⟨p, rfl, hs⟩ := s1
        obtain ⟨p', l, g1, g2, vs', g3, g4⟩ := o1.env.own _ _ (valOf_bor h3)
        rw [hs] at g1
        cases g1
        cases g2
        have hiv := (s2.readable o1.env h2).int
        subst hiv
        obtain ⟨x3, hx3, rx3⟩ := g4.get h5
        refine ⟨p, vs', j, x3, rfl, rfl, .inl (.inl g3), ?_, ρ1, r, ρ2, o1.env, h6, fun y H4 o3 r3 => ?_⟩
        · unfold atI
          rw [g4.length, h4]
          exact hx3
        · refine hf _ _ _ _ _ _ _ h8 (rx3.ext (o3.ext o1.env)) (r3.readable o3.env h7) fun z H5 kp rz => ?_
          have o5 := (Stp.trans o1 o3).trans (Out.more o3.env kp)
          obtain ⟨p', l, g1, g2, ws, g5, g6⟩ := o5.env.own _ _ (valOf_bor h9)
          rw [hs] at g1
          cases g1
          cases g2
          exact ⟨p, ws, j, m, rfl, rfl, g5, by rw [g6.length]; exact h10, kk σ _ (Out.w (stp_mut o5 (valOf_bor h9) hs ⟨ws, g5⟩ (g6.set rz m)))⟩
  rcases ho with ⟨rfl, rfl⟩ | ⟨rfl, rfl⟩
  · exact key (fun u v d x y H Q => tip_add) ip_addA
  · exact key (fun u v d x y H Q => tip_sub) ip_sub
end
end MP

/-! MP: a loop over a list that stays a slot's own. -/
namespace MP
open PySem PySem.Spec PyProof.Rows L2
/-- an iterator at a heap -/
def ItAt (K : MKx) (J : L2.It) (ds : List PyData) (H1 : Hp) : Prop := (∀ i d, ds[i]? = some d → J.go i H1) ∧ (∀ i x H2, i < ds.length → J.yld i H1 x H2 → (∀ a o, H1 a = some o → H2 a = some o) ∧ ∃ d, ds[i]? = some d ∧ Rep K H2 x d) ∧ J.stop ds.length H1
section
variable {K : MKx} {H1 : Hp} {a : Addr} {vs : List V} {ds : List PyData}
theorem at_list (h1 : SqL K H1 a vs) (r1 : RepAll K H1 vs ds) : ItAt K (Itl K a) ds H1 := by
  refine ⟨fun i d hd => ?_, fun i x H2 _ y => ?_, vs, h1, by rw [r1.length]; exact Nat.le_refl _⟩
  · obtain ⟨x, hx, _⟩ := r1.get hd
    exact ⟨vs, x, h1, hx⟩
  · obtain ⟨rfl, y⟩ := y
    obtain ⟨d, hd, hr⟩ := r1.get' (y vs h1)
    exact ⟨fun _ _ q => q, d, hd, hr⟩
theorem at_en (h1 : Src K H1 true a vs) (r1 : RepAll K H1 vs ds) : ItAt K (Itn K true a) (enumL ds) H1 := by
  have hl : (enumL ds).length = ds.length := by
    unfold enumL
    rw [List.length_map, List.length_zipIdx]
  refine ⟨fun i d hd => ?_, fun i x H2 _ y => ?_, vs, h1, by rw [hl, r1.length]⟩
  · rw [enumL_get] at hd
    obtain ⟨d', hd', _⟩ := Option.map_eq_some_iff.mp hd
    obtain ⟨x, hx, _⟩ := r1.get hd'
    exact ⟨vs, x, h1, hx⟩
  · obtain ⟨T, y', rfl, hn, rfl, y⟩ := y
    obtain ⟨d, hd, hr⟩ := r1.get' (y vs h1)
    exact ⟨kept_upd hn, .tuple [.int (i : Nat), d], by rw [enumL_get, hd]; rfl, .tup (.of upd_same) (.cons (.int _) (.cons (hr.ext (Ext.upd hn)) .nil))⟩
end
def itO (K : MKx) (enm : Bool) (p : Addr) : L2.It := if enm = true then Itn K true p else Itl K p
theorem at_O {K : MKx} {H1 : Hp} {p : Addr} {ds : List PyData} (enm : Bool) (h : OwnL K H1 p ds) : ItAt K (itO K enm p) (if enm then enumL ds else ds) H1 := by
  obtain ⟨vs, h1, r1⟩ := h
  cases enm with
  | true => exact at_en (show Rd H1 p (.lst vs) from .of h1) r1
  | false => exact at_list (.inl (.of h1)) r1
/-- the reading: the slot's own list -/
def tIO (K : MKx) (enm : Bool) (i : Nat) : TI := fun σ H R => ∃ ρ xs p, EnvRel K σ ρ H ∧ ρ[i]? = some (some (true, .list xs)) ∧ σ[i]? = some (some (V.ref p)) ∧ ∀ H1, Out K σ ρ H ρ H1 → R (itO K enm p) H1
section
variable {X : Cx} {mp : List Nat} {Φ : Ph} {Mu : Nat → List Bool} {c : Ck}
theorem tIO_var {σ : L2.St} {H : Hp} {R : L2.It → Hp → Prop} {enm : Bool} {i : Nat} (q : tIO (kw X) enm i σ H R) : tM (kw X) (den Φ Mu mp (.var i)) σ H fun x H1 => ∃ a vs, x = .ref a ∧ Src (kw X) H1 true a vs ∧ R (itO (kw X) enm a) H1 := by
  obtain ⟨ρ, xs, p, R0, h1, h2, k⟩ := q
  refine ⟨ρ, .bor i, ρ, R0, by rw [den, h1], fun x H1 o1 r1 => ?_⟩
  obtain ⟨p', e1, e2⟩ := r1
  rw [h2] at e2
  cases e2
  obtain ⟨p'', ds, e3, _, vs, e4, _⟩ := o1.env.own i _ h1
  rw [h2] at e3
  cases e3
  exact ⟨p, vs, e1, show Rd H1 p (.lst vs) from .of e4, k H1 o1⟩
theorem pi_oV (mp : List Nat) {tg : Expr} {x : Str} {px : Pos} {i : Nat} (G : Gd Φ Mu c X) (hi : c.N[i]? = some x) (hv : visB c x = true) (hp : plN x = true) : PI X tg (.Name x px) (tIO (kw X) false i) := by
  obtain ⟨p1, p3⟩ := plN_of hp
  refine ⟨fun pins s σ H R I q => (pi_seq (pe_v (Φ := Φ) (Mu := Mu) (mp := mp) (pos := px) G.toGd0 hi hv p1 p3)).run pins s σ H R I ?_⟩
  refine tM_mono (tIO_var q) fun x H1 ⟨a, vs, e1, e2, e3⟩ => ⟨true, a, vs, e1, e2, e3⟩
theorem pi_oE (mp : List Nat) {elts : List Expr} {kk : Nat} {tpos p pos : Pos} {x : Str} {px : Pos} {i : Nat} (G : Gd Φ Mu c X) (hg : glB c "enumerate" = true) (hi : c.N[i]? = some x) (hv : visB c x = true) (hp : plN x = true) : PI X (.Tuple elts kk tpos) (.Call (.Name "enumerate" p) [.Name x px] [] pos) (tIO (kw X) true i) := by
  obtain ⟨p1, p3⟩ := plN_of hp
  have h := pe_v (Φ := Φ) (Mu := Mu) (mp := mp) (pos := px) G.toGd0 hi hv p1 p3
  refine ⟨fun pins s σ H R I q => (pi_en (G.toGd0.gl hg) (G.blt _ (by decide +kernel)) (pa_cons h pa_nil (star_cons rfl)) (star_cons rfl)).run pins s σ H R I ?_⟩
  refine tM_mono (tIO_var q) fun x H1 ⟨a, vs, e1, e2, e3⟩ => ⟨true, a, vs, by rw [e1], e2, e3⟩
theorem RetR.sub {mp' : List Nat} {K : MKx} {σ σ' : L2.St} {ρ ρ' : Env} {H H' : Hp} {r : Bool × PyData} {x : V} (h : RetR K mp' σ ρ H σ' ρ' H' r x) (hm : ∀ j ∈ mp, j ∈ mp') : RetR K mp σ ρ H σ' ρ' H' r x := by
  unfold RetR at *
  split
  · rename_i hr
    rw [if_pos hr] at h
    obtain ⟨p, l, a1, a2, a3, a4, a5⟩ := h
    exact ⟨p, l, a1, a2, a3, a4, fun j hj => a5 j (hm j hj)⟩
  · rename_i hr
    rw [if_neg hr] at h
    exact h
theorem Stw.sub {mp' : List Nat} {K : MKx} {σ σ' : L2.St} {ρ ρ' : Env} {H H' : Hp} (h : Stw K mp' σ ρ H σ' ρ' H') (hm : ∀ j ∈ mp, j ∈ mp') : Stw K mp σ ρ H σ' ρ' H' := ⟨h.env, h.keep, h.less, h.there, fun j hj => h.fr j (hm j hj)⟩
theorem loopO_cons {cc : Env → Prop} {f : PyData → Env → Option (Fl × Env)} {x : PyData} {xs : List PyData} {ρ : Env} {r : Fl × Env} (h : loopO cc f (x :: xs) ρ = some r) : cc ρ ∧ (match f x ρ with
    | some (.nx, ρ1) => loopO cc f xs ρ1
    | some (.ct, ρ1) => loopO cc f xs ρ1
    | some (.br, ρ1) => some (.nx, ρ1)
    | some (.rt r, ρ1) => some (.rt r, ρ1)
    | none => none) = some r := by
  rw [loopO] at h
  split at h
  · exact ⟨by assumption, h⟩
  · cases h
theorem loopO_nil {cc : Env → Prop} {f : PyData → Env → Option (Fl × Env)} {ρ : Env} {r : Fl × Env} (h : loopO cc f [] ρ = some r) : cc ρ ∧ r = (.nx, ρ) := by
  rw [loopO] at h
  split at h
  · cases h
    exact ⟨by assumption, rfl⟩
  · cases h
theorem ps_forO_ok {t : Tg} {tg iter : Expr} {enm : Bool} {i : Nat} {b : Sts} {body : List Stmt} {pos : Pos} (hx : X.xe = fun _ _ => False) (hc : X.calm = true) (hn : notSet iter = true) (hi : PI X tg iter (tIO (kw X) enm i)) (hg : PG X tg (gT (kw X) (i :: mp) t)) (hb : PSs X body (tS (kw X) (i :: mp) (execs Φ Mu (i :: mp) b))) :
    PS X (.For tg iter body [] pos) (tS (kw X) mp (exec Φ Mu mp (.forO t enm i b))) := PS.imp (ps_for (by rw [hx]; exact PassesOwn.never) hc hi hg hb (fsi hn _)) fun Dn σ H ⟨ρ, f, ρ', R, e1, k⟩ => by
  rw [exec] at e1
  split at e1
  · rename_i L h1
    obtain ⟨p, L', hs, hL', _⟩ := R.own i _ h1
    cases hL'
    refine ⟨ρ, L, p, R, h1, hs, fun H1 o1 => ?_⟩
    have k1 := k.late (Out.w o1)
    have sb : ∀ j ∈ mp, j ∈ i :: mp := fun j hj => List.mem_cons_of_mem _ hj
    generalize hxs : (if enm = true then enumL L else L) = xs at e1
    have live : ∀ {σ' : L2.St} {ρi : Env} {H' : Hp}, Stw (kw X) (i :: mp) σ ρ H1 σ' ρi H' → ρi[i]? = some (some (true, .list L)) → ItAt (kw X) (itO (kw X) enm p) xs H' := fun {σ' ρi H'} S hρ => by
      obtain ⟨q, ds, e2, e3, e4⟩ := S.env.own i _ hρ
      rw [S.fr i (by simp), hs] at e2
      cases e2
      cases e3
      have := at_O enm e4
      rw [hxs] at this
      exact this
    refine ⟨fun n m σ' H' => n ≤ xs.length ∧ m = xs.length - n ∧ ∃ ρi, Stw (kw X) (i :: mp) σ ρ H1 σ' ρi H' ∧ loopO (fun ρ => ρ[i]? = some (some (true, .list L))) (tgB (i :: mp) t fun ρ => execs Φ Mu (i :: mp) b ρ) (xs.drop n) ρi = some (f, ρ'), ⟨xs.length, Nat.zero_le _, by simp, ρ, Out.w (Out.refl o1.env), by simpa using e1⟩, ?_⟩
    rintro n m σ' H' ⟨hn, rfl, ρi, S, hl⟩
    by_cases hlt : n < xs.length
    · right
      rw [List.drop_eq_getElem_cons hlt] at hl
      obtain ⟨hcc, hl⟩ := loopO_cons hl
      obtain ⟨jg, jy, js⟩ := live S hcc
      refine ⟨jg n _ (List.getElem?_eq_getElem hlt), ?_⟩
      refine ⟨fun σ2 H2 => ∃ ρ2, Stw (kw X) (i :: mp) σ ρ H1 σ2 ρ2 H2 ∧ loopO (fun ρ => ρ[i]? = some (some (true, .list L))) (tgB (i :: mp) t fun ρ => execs Φ Mu (i :: mp) b ρ) (xs.drop (n + 1)) ρ2 = some (f, ρ'), fun σ2 H2 ⟨ρ2, S2, h2⟩ => ⟨xs.length - (n + 1), by omega, hlt, rfl, ρ2, S2, h2⟩, fun x H2 y => ?_⟩
      obtain ⟨kp, d, hd, rx⟩ := jy n x H2 hlt y
      rw [List.getElem?_eq_getElem hlt] at hd
      cases hd
      cases ha : asgT (i :: mp) t xs[n] ρi with
      | none => simp [tgB, ha] at hl
      | some ρa =>
        simp only [tgB, ha] at hl
        have S2 : Stw (kw X) (i :: mp) σ ρ H1 σ' ρi H2 := S.trans (Out.w (Out.more S.env kp))
        refine ⟨xs[n], ρi, ρa, rx, S2.env, ha, fun σ3 H3 s3 f3 => ?_⟩
        have S3 : Stw (kw X) (i :: mp) σ ρ H1 σ3 ρa H3 := S2.trans (s3.w fun j hj => f3.2 j fun z => mp_of_asgT ha j z hj)
        cases hb' : execs Φ Mu (i :: mp) b ρa with
        | none => simp [hb'] at hl
        | some yy =>
          obtain ⟨f1, ρb⟩ := yy
          simp only [hb'] at hl
          refine ⟨ρa, f1, ρb, S3.env, hb', ?_⟩
          cases f1 with
          | nx => exact fun σ4 H4 s4 => ⟨ρb, S3.trans s4, hl⟩
          | ct => exact fun σ4 H4 s4 => ⟨ρb, S3.trans s4, hl⟩
          | br =>
            cases hl
            exact fun σ4 H4 s4 => k1 σ4 H4 ((S3.trans s4).sub sb)
          | rt r =>
            cases hl
            exact fun σ4 H4 x4 s4 rr => k1 σ4 H4 x4 ((S3.trans s4).sub sb) ((rr.sub sb).early (S3.sub sb))
    · left
      have e : n = xs.length := by omega
      subst e
      rw [List.drop_length] at hl
      obtain ⟨hcc, hl⟩ := loopO_nil hl
      cases hl
      obtain ⟨jg, jy, js⟩ := live S hcc
      exact ⟨js, k1 σ' H' (S.sub sb)⟩
  · cases e1
end
end MP

/-! MP: statements are checked; defs. -/
namespace MP
open PySem PySem.Spec PyProof.Rows L2
/-- a comprehension's list that goes straight to its name -/
def swB (c : Ck) (s : Scope) (cp : Pos) (x : Str) (px : Pos) : Bool := c.sc.names.lookup x == some .local && px.line == cp.line && !(s.names.any fun (n, k) => n == x && (k == .local || k == .cell))
theorem swB_ok {c : Ck} {s : Scope} {cp px : Pos} {x : Str} {l : Nat} {env : PySem.Env} {ee : Expr} {gens : List Comprehension} (hs : env.scope = c.sc) (hk : env.scope.kind = .function) : swapsWith (.ListComp ee gens s cp) (some (.Name x px)) l env = pure (swB c s cp x px) := by
  have hb : (env.blockKind == .function) = true := by rw [blockKind_fn hk]; rfl
  have ky : env.kindOf x = c.sc.names.lookup x := by unfold Env.kindOf; rw [hs]
  unfold swapsWith swB
  simp only [hb, ky, Expr.pos, Bool.true_and]
def chkPar (c : Ck) (ts : List Pt) (as : List Expr → Bool) (tes ves : List Expr) : Bool := match swK c tes ves with
  | some none => chkPts c ts tes && as ves && decide (tes.length ≤ 100)
  | some (some ns) => (match ts, tes, ves with
    | [.tg (.var i), .tg (.var j)], [.Name x _, .Name y _], [a, b] => decide (ns = [x, y]) && decide (c.N[i]? = some x) && decide (c.N[j]? = some y) && decide (i ≠ j) && (c.sc.names.lookup x == some .local) && (c.sc.names.lookup y == some .local) && as [a, b]
    | [.tg (.var i), .tg (.var j), .tg (.var l)], [.Name x _, .Name y _, .Name z _], [a, b, d] => decide (ns = [x, y, z]) && decide (c.N[i]? = some x) && decide (c.N[j]? = some y) && decide (c.N[l]? = some z) && decide (i ≠ j) && decide (i ≠ l) && decide (j ≠ l) &&
        (c.sc.names.lookup x == some .local) && (c.sc.names.lookup y == some .local) && (c.sc.names.lookup z == some .local) && as [a, b, d]
    | _, _, _ => false)
  | none => false
mutual
def chkS (c : Ck) : St → Stmt → Bool
  | .exp a, s => (match s with
    | .Expr e _ => notComp e && chkE c a e
    | _ => false)
  | .asg t a, s => (match s with
    | .Assign [tg] e pos => (match t, tg with
      | .var i, .Name x px => decide (c.N[i]? = some x) && locB c x && chkE c a e && (match a, e with
        | .comp _ _ _, .ListComp _ _ sc cp => !swB c sc cp x px || c.sc.names.lookup x == some .local
        | _, e => notComp e)
      | .tup ts, .Tuple es k tp => chkT c (.tup ts) (.Tuple es k tp) && notTup e && chkE c a e
      | _, _ => false)
    | _ => false)
  | .par ts as, s => (match s with
    | .Assign [.Tuple tes _ _] (.Tuple ves _ _) _ => chkPar c ts (fun es => chkEs c as es) tes ves
    | _ => false)
  | .set i k a, s => (match s with
    | .Assign [.Subscript (.Name x _) ek _] e _ => decide (c.N[i]? = some x) && visB c x && plN x && notSl ek && chkE c k ek && chkE c a e
    | _ => false)
  | .aug i o a, s => (match s with
    | .AugAssign (.Name x _) op e _ => decide (c.N[i]? = some x) && locB c x && (match o, op with
      | .add, .Add => true
      | .sub, .Sub => true
      | _, _ => false) && chkE c a e
    | _ => false)
  | .aset i k o a, s => (match s with
    | .AugAssign (.Subscript (.Name x _) ek _) op e _ => decide (c.N[i]? = some x) && visB c x && plN x && notSl ek && (match o, op with
      | .add, .Add => true
      | .sub, .Sub => true
      | _, _ => false) && chkE c k ek && chkE c a e
    | _ => false)
  | .ret a, s => (match s with
    | .Return (some e) _ => chkE c a e
    | _ => false)
  | .ret0, s => (match s with
    | .Return none _ => true
    | _ => false)
  | .ite a p q, s => (match s with
    | .If e ps qs _ => chkE c a e && chkSs c p ps && chkSs c q qs
    | _ => false)
  | .for t i b, s => (match s with
    | .For tg iter body [] _ => notSet iter && chkI c i tg iter && chkT c t tg && chkSs c b body
    | _ => false)
  | .forO t enm i b, s => (match s with
    | .For tg iter body [] _ => notSet iter && (match enm, tg, iter with
      | false, _, .Name x _ => decide (c.N[i]? = some x) && visB c x && plN x
      | true, .Tuple _ _ _, .Call (.Name nm _) [.Name x _] [] _ => decide (nm = Str.ofString "enumerate") && glB c "enumerate" && decide (c.N[i]? = some x) && visB c x && plN x
      | _, _, _ => false) && chkT c t tg && chkSs c b body
    | _ => false)
  | .while a b, s => (match s with
    | .While e body [] _ => chkE c a e && chkSs c b body
    | _ => false)
  | .pass, s => (match s with
    | .Pass _ => true
    | _ => false)
  | .brk, s => (match s with
    | .Break _ => true
    | _ => false)
  | .cont, s => (match s with
    | .Continue _ => true
    | _ => false)
def chkSs (c : Ck) : Sts → List Stmt → Bool
  | .nil, [] => true
  | .cons s r, st :: sts => chkS c s st && chkSs c r sts
  | _, _ => false
end
section
variable {Φ : Ph} {Mu : Nat → List Bool} {mp : List Nat}
theorem par_ok {X : Cx} {c : Ck} {ts : List Pt} {as : Exs} {k : List Expr → Bool} {tes ves : List Expr} {k1 k2 : Nat} {tp p2 pos : Pos} (G : Gd Φ Mu c X) (hf : X.env.scope.kind = .function) (hk : ∀ es, k es = true → PEs Φ Mu mp X as es) (h : chkPar c ts k tes ves = true) :
    PS X (.Assign [.Tuple tes k1 tp] (.Tuple ves k2 p2) pos) (tS (kw X) mp (exec Φ Mu mp (.par ts as))) := by
  unfold chkPar at h
  split at h
  · rename_i hs
    simp only [Bool.and_eq_true, decide_eq_true_eq] at h
    exact ps_parL G hf hs h.1.1 (hk _ h.1.2) h.2
  · rename_i ns' hs
    split at h
    · simp only [Bool.and_eq_true, decide_eq_true_eq, beq_iff_eq] at h
      obtain ⟨⟨⟨⟨⟨⟨e1, hi⟩, hj⟩, hij⟩, hx⟩, hy⟩, ha⟩ := h
      subst e1
      exact ps_parR2 G hf hs hi hj hij hx hy (hk _ ha)
    · simp only [Bool.and_eq_true, decide_eq_true_eq, beq_iff_eq] at h
      obtain ⟨⟨⟨⟨⟨⟨⟨⟨⟨⟨e1, hi⟩, hj⟩, hl⟩, hij⟩, hil⟩, hjl⟩, hx⟩, hy⟩, hz⟩, ha⟩ := h
      subst e1
      exact ps_parR3 G hf hs hi hj hl hij hil hjl hx hy hz (hk _ ha)
    · cases h
  · cases h
mutual
theorem ss_ok : ∀ {s : St} {st : Stmt} {c : Ck} {X : Cx} (mp : List Nat), Gd Φ Mu c X → X.env.scope.kind = .function → X.xe = (fun _ _ => False) → chkS c s st = true → PS X st (tS (kw X) mp (exec Φ Mu mp s))
  | .exp a, st, c, X, mp, G, hf, hx, h => by
    unfold chkS at h
    split at h
    · rw [Bool.and_eq_true] at h
      exact ps_exp_ok h.1 (se_ok G h.2).1
    · cases h
  | .asg t a, st, c, X, mp, G, hf, hx, h => by
    unfold chkS at h
    split at h
    · split at h
      · rename_i i x px
        simp only [Bool.and_eq_true, decide_eq_true_eq] at h
        obtain ⟨⟨⟨hi, hl⟩, he⟩, h2⟩ := h
        split at h2
        · rename_i own elt cl ee gens sc cp
          cases hs : swB c sc cp x px with
          | false => exact ps_asgV G.toGd0 hi hl (by rw [swB_ok G.sc hf, hs]) (se_ok G he).1
          | true =>
            rw [hs] at h2
            simp only [Bool.not_true, Bool.false_or, beq_iff_eq] at h2
            exact ps_asgC G hi (by rw [G.sc]; exact h2) (by rw [swB_ok G.sc hf, hs]) he
        · exact ps_asgV G.toGd0 hi hl (sw_no h2 _ _ _) (se_ok G he).1
      · simp only [Bool.and_eq_true] at h
        exact ps_asgT G.toGd0 h.1.1 h.1.2 (se_ok G h.2).1
      · cases h
    · cases h
  | .par ts as, st, c, X, mp, G, hf, hx, h => by
    unfold chkS at h
    split at h
    · exact par_ok G hf (fun es he => ses_ok G he) h
    · cases h
  | .set i k a, st, c, X, mp, G, hf, hx, h => by
    unfold chkS at h
    split at h
    · simp only [Bool.and_eq_true, decide_eq_true_eq] at h
      obtain ⟨⟨⟨⟨⟨hi, hv⟩, hp⟩, hs⟩, hk⟩, he⟩ := h
      exact ps_set_ok G hi hv hp hs (se_ok G hk).1 (se_ok G he).1
    · cases h
  | .aug i o a, st, c, X, mp, G, hf, hx, h => by
    unfold chkS at h
    split at h
    · simp only [Bool.and_eq_true, decide_eq_true_eq] at h
      obtain ⟨⟨⟨hi, hl⟩, ho⟩, he⟩ := h
      split at ho
      · exact ps_aug_ok G.toGd0 hi hl (.inl ⟨rfl, rfl⟩) (se_ok G he).1
      · exact ps_aug_ok G.toGd0 hi hl (.inr ⟨rfl, rfl⟩) (se_ok G he).1
      · cases ho
    · cases h
  | .aset i k o a, st, c, X, mp, G, hf, hx, h => by
    unfold chkS at h
    split at h
    · simp only [Bool.and_eq_true, decide_eq_true_eq] at h
      obtain ⟨⟨⟨⟨⟨⟨hi, hv⟩, hp⟩, hs⟩, ho⟩, hk⟩, he⟩ := h
      split at ho
      · exact ps_aset_ok G hi hv hp hs (.inl ⟨rfl, rfl⟩) (se_ok G hk).1 (se_ok G he).1
      · exact ps_aset_ok G hi hv hp hs (.inr ⟨rfl, rfl⟩) (se_ok G hk).1 (se_ok G he).1
      · cases ho
    · cases h
  | .ret a, st, c, X, mp, G, hf, hx, h => by
    unfold chkS at h
    split at h
    · exact ps_ret_ok (se_ok G h).1
    · cases h
  | .ret0, st, c, X, mp, G, hf, hx, h => by
    unfold chkS at h
    split at h
    · exact ps_ret0_ok
    · cases h
  | .ite a p q, st, c, X, mp, G, hf, hx, h => by
    unfold chkS at h
    split at h
    · simp only [Bool.and_eq_true] at h
      exact ps_if_ok (se_ok G h.1.1).2 (sss_ok mp G hf hx h.1.2) (sss_ok mp G hf hx h.2)
    · cases h
  | .for t i b, st, c, X, mp, G, hf, hx, h => by
    unfold chkS at h
    split at h
    · simp only [Bool.and_eq_true] at h
      exact ps_for_ok hx G.calm h.1.1.1 (si_ok G h.1.1.2) (pg_of G.toGd0 h.1.2) (sss_ok mp G hf hx h.2)
    · cases h
  | .forO t enm i b, st, c, X, mp, G, hf, hx, h => by
    unfold chkS at h
    split at h
    · simp only [Bool.and_eq_true] at h
      obtain ⟨⟨⟨hn, hi⟩, ht⟩, hb⟩ := h
      refine ps_forO_ok hx G.calm hn ?_ (pg_of G.toGd0 ht) (sss_ok (i :: mp) G hf hx hb)
      split at hi
      · simp only [Bool.and_eq_true, decide_eq_true_eq] at hi
        exact pi_oV mp G hi.1.1 hi.1.2 hi.2
      · simp only [Bool.and_eq_true, decide_eq_true_eq] at hi
        obtain ⟨⟨⟨⟨h1, h2⟩, h3⟩, h4⟩, h5⟩ := hi
        subst h1
        exact pi_oE mp G h2 h3 h4 h5
      · cases hi
    · cases h
  | .while a b, st, c, X, mp, G, hf, hx, h => by
    unfold chkS at h
    split at h
    · simp only [Bool.and_eq_true] at h
      exact ps_while_ok hx (se_ok G h.1).2 (sss_ok mp G hf hx h.2)
    · cases h
  | .pass, st, c, X, mp, G, hf, hx, h => by
    unfold chkS at h
    split at h
    · exact ps_pass_ok
    · cases h
  | .brk, st, c, X, mp, G, hf, hx, h => by
    unfold chkS at h
    split at h
    · exact ps_brk_ok
    · cases h
  | .cont, st, c, X, mp, G, hf, hx, h => by
    unfold chkS at h
    split at h
    · exact ps_ct_ok
    · cases h
theorem sss_ok : ∀ {s : Sts} {sts : List Stmt} {c : Ck} {X : Cx} (mp : List Nat), Gd Φ Mu c X → X.env.scope.kind = .function → X.xe = (fun _ _ => False) → chkSs c s sts = true → PSs X sts (tS (kw X) mp (execs Φ Mu mp s))
  | .nil, [], c, X, mp, G, hf, hx, h => pss_nil_ok
  | .nil, _ :: _, c, X, mp, G, hf, hx, h => by cases h
  | .cons _ _, [], c, X, mp, G, hf, hx, h => by cases h
  | .cons s r, st :: sts, c, X, mp, G, hf, hx, h => by
    have h1 : (chkS c s st && chkSs c r sts) = true := h
    rw [Bool.and_eq_true] at h1
    exact pss_cons_ok (ss_ok mp G hf hx h1.1) (sss_ok mp G hf hx h1.2)
end
end
end MP

/-! MP: defs keep their promises. -/
namespace MP
open PySem PySem.Spec PyProof.Rows L2
/-- a promise at a depth -/
def FnL (P : Program) (w : World) (K : PySem.W.Frag) (mg : Str → Option Value) (base : Heap) (k : Nat) (a : Addr) (φ : List (Bool × PyData) → Option ((Bool × PyData) × List PyData)) (mu : List Bool) : Prop :=
  ∀ A, Room k A → A.guards = some [] → FnM P w ⟨K, w⟩ mg base A a φ mu
/-- the context of a def's body; no exception -/
abbrev cxM (P : Program) (w : World) (K : PySem.W.Frag) (mg : Str → Option Value) (base : Heap) (N : List Str) (qual : Str) (scope : Scope) (f : Addr) (cd : Value) (A : Around) (outer : List PySem.Env) (s : Shared) (H : Hp) : Cx :=
  (cxOf (fun _ _ _ _ _ _ => True) P w K mg base N qual scope f cd A outer s H (fun _ _ _ => True)).nox
section
variable {K : MKx} {H H' : Hp} {σ : L2.St}
/-- the slots at the entry -/
theorem start_get {N : List Str} {vs : List V} {i : Nat} : (L2.start N vs)[i]? = match vs[i]? with
    | some v => some (some v)
    | none => if i < N.length ∨ i < vs.length then some none else none := by
  unfold L2.start
  by_cases h : i < vs.length
  · rw [List.getElem?_append_left (by simpa using h), List.getElem?_map, List.getElem?_eq_getElem h]
    rfl
  · rw [List.getElem?_append_right (by simpa using h), List.getElem?_eq_none (l := vs) (by omega), List.getElem?_replicate, List.length_map]
    simp only
    split
    · rename_i h1
      rw [if_pos (by omega)]
    · rename_i h1
      rw [if_neg (by omega)]
theorem startE_get {n : Nat} {vs : List (Bool × PyData)} {i : Nat} {x : Bool × PyData} (h : (startE n vs)[i]? = some (some x)) : vs[i]? = some x := by
  unfold startE at h
  by_cases hi : i < vs.length
  · rw [List.getElem?_append_left (by simpa using hi), List.getElem?_map] at h
    cases hv : vs[i]? with
    | none => rw [hv] at h; cases h
    | some y => rw [hv] at h; cases h; rfl
  · rw [List.getElem?_append_right (by simpa using hi), List.getElem?_replicate] at h
    split at h <;> cases h
theorem argR_get {mu : List Bool} {vs : List V} {ds : List PyData} {i : Nat} {m : Bool} {d : PyData} (a : ArgR K H mu vs ds) (h : (mu.zip ds)[i]? = some (m, d)) : ∃ x, vs[i]? = some x ∧ mu[i]? = some m ∧ (m = false → Rep K H x d) ∧ (m = true → ∃ p l, x = .ref p ∧ d = .list l ∧ OwnL K H p l) := by
  induction a generalizing i with
  | nil => simp at h
  | @sh ms x xs d' ds' a r ih =>
    cases i with
    | zero =>
      cases h
      exact ⟨x, rfl, rfl, fun _ => a, fun z => nomatch z⟩
    | succ i => exact ih (i := i) h
  | @mu ms p xs l ds' o r ih =>
    cases i with
    | zero =>
      cases h
      exact ⟨_, rfl, rfl, (fun z => nomatch z), fun _ => ⟨p, l, rfl, rfl, o⟩⟩
    | succ i => exact ih (i := i) h
theorem argR_len : ∀ {mu : List Bool} {vs : List V} {ds : List PyData}, ArgR K H mu vs ds → mu.length = vs.length ∧ ds.length = vs.length
  | _, _, _, .nil => ⟨rfl, rfl⟩
  | _, _, _, .sh _ r => by obtain ⟨a, b⟩ := argR_len r; exact ⟨by rw [List.length_cons, List.length_cons, a], by rw [List.length_cons, List.length_cons, b]⟩
  | _, _, _, .mu _ r => by obtain ⟨a, b⟩ := argR_len r; exact ⟨by rw [List.length_cons, List.length_cons, a], by rw [List.length_cons, List.length_cons, b]⟩
theorem mutA_at : ∀ {mu : List Bool} {vs : List V} {i : Nat} {p : Addr}, mu[i]? = some true → vs[i]? = some (V.ref p) → p ∈ mutA mu vs
  | [], _, _, _, h, _ => by simp at h
  | _ :: _, [], _, _, _, h => by simp at h
  | true :: mu, .ref q :: vs, 0, p, h, h2 => by
    cases h2
    exact List.mem_cons_self ..
  | m :: mu, v :: vs, i + 1, p, h, h2 => by
    have g := mutA_at (mu := mu) (vs := vs) (i := i) (by simpa using h) (by simpa using h2)
    cases m with
    | false => simpa [mutA] using g
    | true =>
      cases v with
      | ref q => exact List.mem_cons_of_mem _ g
      | _ => simpa [mutA] using g
theorem mutA_inj : ∀ {mu : List Bool} {vs : List V} {i j : Nat} {p : Addr}, (mutA mu vs).Nodup → mu[i]? = some true → mu[j]? = some true → vs[i]? = some (V.ref p) → vs[j]? = some (V.ref p) → i = j
  | [], _, _, _, _, _, h, _, _, _ => by simp at h
  | _ :: _, [], _, _, _, _, _, _, h, _ => by simp at h
  | m :: mu, v :: vs, 0, 0, p, _, _, _, _, _ => rfl
  | m :: mu, v :: vs, 0, j + 1, p, nd, h1, h2, h3, h4 => by
    cases h1
    cases h3
    have nd' : (p :: mutA mu vs).Nodup := nd
    rw [List.nodup_cons] at nd'
    exact (nd'.1 (mutA_at (by simpa using h2) (by simpa using h4))).elim
  | m :: mu, v :: vs, i + 1, 0, p, nd, h1, h2, h3, h4 => by
    cases h2
    cases h4
    have nd' : (p :: mutA mu vs).Nodup := nd
    rw [List.nodup_cons] at nd'
    exact (nd'.1 (mutA_at (by simpa using h1) (by simpa using h3))).elim
  | m :: mu, v :: vs, i + 1, j + 1, p, nd, h1, h2, h3, h4 => by
    have nd' : (mutA mu vs).Nodup := by
      cases m with
      | false => simpa [mutA] using nd
      | true =>
        cases v with
        | ref q =>
          have z : (q :: mutA mu vs).Nodup := nd
          exact (List.nodup_cons.mp z).2
        | _ => simpa [mutA] using nd
    rw [mutA_inj (mu := mu) (vs := vs) (i := i) (j := j) nd' (by simpa using h1) (by simpa using h2) (by simpa using h3) (by simpa using h4)]
theorem mutIx_mem : ∀ {mu : List Bool} {k i : Nat}, mu[i]? = some true → k + i ∈ mutIx k mu
  | [], _, _, h => by simp at h
  | true :: mu, k, 0, _ => List.mem_cons_self ..
  | m :: mu, k, i + 1, h => by
    have g := mutIx_mem (mu := mu) (k := k + 1) (i := i) (by simpa using h)
    have e : k + 1 + i = k + (i + 1) := by omega
    rw [e] at g
    cases m with
    | true => exact List.mem_cons_of_mem _ g
    | false => exact g
theorem entry_rel {N : List Str} {mu : List Bool} {vs : List V} {ds : List PyData} (hl : vs.length ≤ N.length) (a : ArgR K H mu vs ds) (nd : (mutA mu vs).Nodup) : EnvRel K (L2.start N vs) (startE N.length (mu.zip ds)) H := by
  obtain ⟨l1, l2⟩ := argR_len a
  have lz : (mu.zip ds).length = vs.length := by rw [List.length_zip, l1, l2, Nat.min_self]
  have at' : ∀ {i : Nat} {x : V}, vs[i]? = some x → (L2.start N vs)[i]? = some (some x) := fun {i x} h => by
    rw [start_get, h]
  refine ⟨?_, fun i d h => ?_, fun i d h => ?_, fun i j d e p h1 h2 h3 h4 => ?_⟩
  · unfold L2.start startE
    rw [List.length_append, List.length_append, List.length_map, List.length_map, List.length_replicate, List.length_replicate, lz]
  · obtain ⟨x, h1, _, h2, _⟩ := argR_get a (startE_get h)
    exact ⟨x, at' h1, h2 rfl⟩
  · obtain ⟨x, h1, _, _, h2⟩ := argR_get a (startE_get h)
    obtain ⟨p, l, rfl, rfl, o⟩ := h2 rfl
    exact ⟨p, l, at' h1, rfl, o⟩
  · obtain ⟨x, g1, g2, _, g3⟩ := argR_get a (startE_get h1)
    obtain ⟨y, k1, k2, _, k3⟩ := argR_get a (startE_get h2)
    rw [at' g1] at h3
    rw [at' k1] at h4
    cases h3
    cases h4
    exact mutA_inj nd g2 k2 g1 k1
theorem fin_rel {σ' : L2.St} {ρ' : Env} (R : EnvRel K σ' ρ' H') : ∀ {mu : List Bool} {vs : List V} {ds : List PyData} {k : Nat} {fin : List PyData}, ArgR K H mu vs ds → (∀ (i : Nat) (x : V), mu[i]? = some true → vs[i]? = some x → σ'[k + i]? = some (some x)) → finals ρ' (mutIx k mu) = some fin → FinR K H' mu vs fin
  | _, _, _, _, _, .nil, _, e => by
    cases e
    exact .nil
  | _, _, _, k, fin, .sh a r, h, e => .sh (fin_rel (k := k + 1) R r (fun i x h1 h2 => by
      have := h (i + 1) x (by simpa using h1) (by simpa using h2)
      rwa [show k + (i + 1) = k + 1 + i by omega] at this) e)
  | _, _, _, k, fin, .mu (p := p) o r, h, e => by
    unfold mutIx finals at e
    split at e
    · rename_i d ds' h1 h2
      cases e
      obtain ⟨q, l, g1, rfl, g3⟩ := R.own k d (valOf_bor h1)
      have h0 := h 0 (.ref p) rfl rfl
      rw [Nat.add_zero] at h0
      rw [h0] at g1
      cases g1
      exact .mu g3 (fin_rel (k := k + 1) R r (fun i x h1 h2 => by
        have := h (i + 1) x (by simpa using h1) (by simpa using h2)
        rwa [show k + (i + 1) = k + 1 + i by omega] at this) h2)
    · cases e
theorem finals_own {ρ' : Env} : ∀ {is : List Nat} {fin : List PyData}, finals ρ' is = some fin → ∀ i ∈ is, ∃ d, ρ'[i]? = some (some (true, d))
  | [], _, _, i, hi => by cases hi
  | j :: is, fin, e, i, hi => by
    unfold finals at e
    split at e
    · rename_i d ds h1 h2
      rcases List.mem_cons.mp hi with rfl | hi
      · exact ⟨d, valOf_bor h1⟩
      · exact finals_own h2 i hi
    · cases e
end
/-- THE RULE of a def -/
theorem fnL_of {P : Program} {w : World} {K : PySem.W.Frag} {mg : Str → Option Value} {base : Heap} {n : Nat} {T : List Fn} {F : Fn} {g : Nat} {f : Addr} {name qual : Str} {params : Arguments} {body : List Stmt} {scope : Scope} {dV kV doc pm cdv ct oc : Value} {an od : Option Addr}
    {osl : Array (Option Value)} {N ps : List Str} {c : Ck} (hT : T[g]? = some F) (lk : K.lookup f = some ⟨oc, od, .func (PySem.W.fnOf name qual params body scope dV kV doc pm an cdv ct), osl⟩) (hcd : PySem.W.codeIn K cdv qual = true) (S : FnScope N ps scope)
    (hb : ∀ us : List Value, us.length = ps.length → bindArgs (PySem.W.fnOf name qual params body scope dV kV doc pm an cdv ct) ⟨us, []⟩ = pure (ps.zip us)) (hmu : F.mu.length = ps.length) (hsl : F.slots = N.length) (hcN : c.N = N) (hcs : c.sc = scope)
    (hck : chkSs c F.body body = true) (sys : ∃ o, K.lookup sysModules = some o) (blt : ∀ x ∈ blts, mg x = none)
    (fns : ∀ (f : Nat) (x : Str), c.fs[f]? = some x → ∃ a, mg x = some (.ref a) ∧ PySem.W.keepIn K (.ref a) = true ∧ FnL P w K mg base n a (run T n f) (((T[f]?).map (·.mu)).getD []))
    (gls : ∀ p ∈ c.gl, ∃ u v, mg p.1 = some u ∧ RelV v u ∧ ∀ H, Rep ⟨K, w⟩ H v p.2) : FnL P w K mg base (n + 1) f (run T (n + 1) g) F.mu := by
  intro A hr hg outer s H us vs Q e0 r ⟨ds, rr, fin, hl, hrun, ar, nd, k⟩
  have hvl : vs.length = ps.length := by rw [← hl, hmu]
  have hul : us.length = ps.length := by rw [← r.length, hvl]
  have hpl : ps.length ≤ N.length := by
    have := congrArg List.length S.pre
    rw [List.length_take] at this
    omega
  have KX : K.In s.heap := e0.mod.kin.keeps fun b o e => (e0.bs b o e).1
  have lim : s.heap.NoLimit := e0.mod.nolimit.keeps fun b o e => (e0.bs b o e).1
  have hkind : ∀ y ∈ ps.zip us, scope.names.lookup y.1 = some .local ∨ (scope.names.lookup y.1 = some .cell ∧ ((cellsFrom (s.heap.objs.size + 1) scope.names []).lookup y.1).isSome = true) := fun ⟨n, v⟩ hy => by
    rcases S.par n (List.of_mem_zip hy).1 with q | q
    · exact .inl q
    · exact .inr ⟨q, PySem.W.cellsFrom_some _ _ _ (.inl q)⟩
  refine codeAny_call_function hr.depth (KX _ _ lk) rfl S.co S.gen rfl (PySem.W.codeRec_of KX hcd) (BindsTo.of_eq (hb us hul) _ _ _ _ ?_)
  refine wpAny_newFunctionEnv_cells S.kind hkind fun env he s1 x => ?_
  subst he
  refine ⟨lim.keeps x.toInCall.keep, codeAny_func ?_⟩
  have I0 : Inv (cxOf (fun _ _ _ _ _ _ => True) P w K mg base N qual scope f cdv A outer s H (fun _ _ _ => True)) [] (L2.start N vs) H s1 := inv_start S hr.hd e0 hvl r x
  have I : Inv (cxM P w K mg base N qual scope f cdv A outer s H) [] (L2.start N vs) H s1 := I0.wish _
  have hr' : Room n (A.deeper (envOfC qual scope s.heap.objs.size f cdv)) := hr.deeper _
  have G : Gd (run T n) (fun g => ((T[g]?).map (·.mu)).getD []) c (cxM P w K mg base N qual scope f cdv A outer s H) :=
    { n := hcN.symm
      nd := S.nd
      sc := hcs.symm
      fn := fun _ _ => rfl
      calm := rfl
      sys := sys
      un := by have := hr'.un; show (A.deeper _).units + 200 < _; omega
      gds := hg
      blt := blt
      fn' := fun g x hx => by
        obtain ⟨a, h1, h2, h3⟩ := fns g x hx
        exact ⟨a, h1, h2, h3 _ hr' hg⟩
      gl' := gls }
  have body_ok := sss_ok (mutIx 0 F.mu) G (show scope.kind = .function from S.kind) rfl hck
  -- what the meaning says
  have hz : (F.mu.zip ds).map (·.1) = F.mu := by
    obtain ⟨l1, l2⟩ := argR_len ar
    exact List.map_fst_zip (by omega)
  unfold run at hrun
  simp only [hT, hz, if_true] at hrun
  have R0 : EnvRel ⟨K, w⟩ (L2.start N vs) (startE F.slots (F.mu.zip ds)) H := by
    rw [hsl]
    exact entry_rel (by omega) ar nd
  have own0 : ∀ p, Owned (L2.start N vs) (startE F.slots (F.mu.zip ds)) p → ∃ i, F.mu[i]? = some true ∧ vs[i]? = some (V.ref p) := fun p ⟨i, d, h1, h2⟩ => by
    obtain ⟨y, g1, g2, _, g3⟩ := argR_get ar (startE_get h1)
    rw [start_get, g1] at h2
    cases h2
    exact ⟨i, g2, g1⟩
  -- the end
  have fin' : ∀ {σ' σ2 : L2.St} {ρ' : Env} {H' : Hp} {s' : Shared} {v : V} {u : Value} {r0 : Bool × PyData} {f0 : List PyData}, Inv (cxM P w K mg base N qual scope f cdv A outer s H) [] σ2 H' s' → RelV v u → Stw ⟨K, w⟩ (mutIx 0 F.mu) (L2.start N vs) (startE F.slots (F.mu.zip ds)) H σ' ρ' H' → RetR ⟨K, w⟩ (mutIx 0 F.mu) (L2.start N vs) (startE F.slots (F.mu.zip ds)) H σ' ρ' H' r0 v → finals ρ' (mutIx 0 F.mu) = some f0 → r0 = rr → f0 = fin → CE outer P w H s Q u s' :=
    fun {σ' σ2 ρ' H' s' v u r0 f0} J rv St Rt hf e1 e2 => by
      subst e1 e2
      refine ⟨v, H', J.os, J.bare, J.base, J.hok, rv, k v H' ⟨fun a o e hn => St.keep a o e fun z => ?_, St.there, ?_, ?_⟩⟩
      · obtain ⟨i, h1, h2⟩ := own0 a z
        exact hn (mutA_at h1 h2)
      · refine fin_rel St.env (k := 0) ar (fun i x h1 h2 => ?_) hf
        rw [Nat.zero_add, St.fr i (by have := mutIx_mem (k := 0) h1; rwa [Nat.zero_add] at this), start_get, h2]
      · unfold RetR at Rt
        unfold NewR
        split
        · rename_i ho
          rw [if_pos ho] at Rt
          obtain ⟨p, l, h1, h2, h3, h4, h5⟩ := Rt
          refine ⟨p, l, h1, h2, h3, ?_⟩
          rcases h4 with h4 | h4
          · exact h4
          · obtain ⟨i, g1, g2⟩ := own0 p h4
            have hi : i ∈ mutIx 0 F.mu := by have := mutIx_mem (k := 0) g1; rwa [Nat.zero_add] at this
            refine absurd ?_ (h5 i hi (finals_own hf i hi))
            rw [St.fr i hi, start_get, g2]
        · rename_i ho
          rw [if_neg ho] at Rt
          exact Rt
  split at hrun
  · rename_i r0 ρ' hx
    split at hrun
    · rename_i f0 hf
      cases hrun
      refine wpAny_mono (body_ok.run [] s1 (L2.start N vs) H { nx := fun _ _ => False, rt := fun x H' => ∃ σ', Stw ⟨K, w⟩ (mutIx 0 F.mu) (L2.start N vs) (startE F.slots (F.mu.zip ds)) H σ' ρ' H' ∧ RetR ⟨K, w⟩ (mutIx 0 F.mu) (L2.start N vs) (startE F.slots (F.mu.zip ds)) H σ' ρ' H' rr x } I ⟨_, _, _, R0, hx, fun σ' H' x s rr => ⟨σ', s, rr⟩⟩) (fun fl s' hs => ?_) fun e s' hs => hs.elim
      cases fl with
      | ret u =>
        obtain ⟨v, σ', H', J, rv, σ2, St, Rt⟩ := hs
        exact fin' J rv St Rt hf rfl rfl
      | next =>
        obtain ⟨_, _, _, q⟩ := hs
        exact False.elim q
      | brk =>
        obtain ⟨_, _, _, q⟩ := hs
        exact False.elim q
      | cont =>
        obtain ⟨_, _, _, q⟩ := hs
        exact False.elim q
    · cases hrun
  · rename_i ρ' hx
    split at hrun
    · rename_i f0 hf
      cases hrun
      refine wpAny_mono (body_ok.run [] s1 (L2.start N vs) H { nx := fun σ' H' => Stw ⟨K, w⟩ (mutIx 0 F.mu) (L2.start N vs) (startE F.slots (F.mu.zip ds)) H σ' ρ' H', rt := fun _ _ => False } I ⟨_, _, _, R0, hx, fun σ' H' s => s⟩) (fun fl s' hs => ?_) fun e s' hs => hs.elim
      cases fl with
      | ret u =>
        obtain ⟨_, _, _, _, _, q⟩ := hs
        exact False.elim q
      | next =>
        obtain ⟨σ', H', J, St⟩ := hs
        exact fin' (v := V.non) (u := Value.none) (r0 := (false, .none)) J rfl St (show Rep ⟨K, w⟩ _ V.non .none from .non) hf rfl rfl
      | brk =>
        obtain ⟨_, _, _, q⟩ := hs
        exact False.elim q
      | cont =>
        obtain ⟨_, _, _, q⟩ := hs
        exact False.elim q
    · cases hrun
  · cases hrun
end MP

/-! MP: the head. -/
namespace MP
open PySem PySem.W PySem.Calls PySem.Spec PyProof.Rows L2
/-! ### what is looked at behind the top -/
def notLst (p : Addr × Obj) : Bool := match p.2.cls with
  | .type n => !decide (n = "list")
  | _ => true
/-! ### fixed globals -/
def glV : Value → V
  | .bool b => .bl b
  | .int i _ => .int i
  | .str x _ => .str x
  | .ref a => .ref a
  | _ => .non
mutual
def okG (K : PySem.W.Frag) : PyData → Value → Bool
  | .none, u => (match u with
    | .none => true
    | _ => false)
  | .bool b, u => (match u with
    | .bool c => b == c
    | _ => false)
  | .int i, u => (match u with
    | .int j _ => decide (i = j)
    | _ => false)
  | .str x, u => (match u with
    | .str y _ => decide (x = y)
    | _ => false)
  | .tuple ds, u => (match u with
    | .ref a => (match K.lookup a with
      | some ⟨.type c, _, .seq its _, _⟩ => decide (c = "tuple") && (decide (its.size ≤ sizeLine) && okGs K ds its.toList)
      | _ => false)
    | _ => false)
  | .list _, _ => false
  | .dict _, _ => false
def okGs (K : PySem.W.Frag) : List PyData → List Value → Bool
  | [], [] => true
  | d :: ds, u :: us => okG K d u && okGs K ds us
  | _, _ => false
end
mutual
theorem okG_of {K : PySem.W.Frag} (w : World) : ∀ {d : PyData} {u : Value}, okG K d u = true → RelV (glV u) u ∧ ∀ H, Rep ⟨K, w⟩ H (glV u) d
  | .none, u, h => by
    unfold okG at h
    cases u <;> simp only at h <;> first | exact ⟨rfl, fun H => .non⟩ | cases h
  | .bool b, u, h => by
    unfold okG at h
    cases u <;> simp only at h <;> try (cases h; done)
    rename_i c
    have e : b = c := by simpa using h
    subst e
    exact ⟨rfl, fun H => .bl b⟩
  | .int i, u, h => by
    unfold okG at h
    cases u <;> simp only at h <;> try (cases h; done)
    have e := of_decide_eq_true h
    subst e
    exact ⟨⟨_, rfl⟩, fun H => .int i⟩
  | .str x, u, h => by
    unfold okG at h
    cases u <;> simp only at h <;> try (cases h; done)
    have e := of_decide_eq_true h
    subst e
    exact ⟨⟨_, rfl⟩, fun H => .str x⟩
  | .tuple ds, u, h => by
    unfold okG at h
    cases u <;> simp only at h <;> try (cases h; done)
    rename_i a
    split at h
    · rename_i c dc its n sl e
      simp only [Bool.and_eq_true, decide_eq_true_eq] at h
      obtain ⟨rfl, h2, h3⟩ := h
      obtain ⟨r1, r2⟩ := okGs_of w h3
      exact ⟨rfl, fun H => .tup (.inr ⟨_, its, n, e, rfl, rfl, h2, r1⟩) (r2 H)⟩
    · cases h
  | .list _, u, h => by
    unfold okG at h
    cases h
  | .dict _, u, h => by
    unfold okG at h
    cases h
theorem okGs_of {K : PySem.W.Frag} (w : World) : ∀ {ds : List PyData} {us : List Value}, okGs K ds us = true → Vals (us.map glV) us ∧ ∀ H, RepAll ⟨K, w⟩ H (us.map glV) ds
  | [], [], _ => ⟨.nil, fun H => .nil⟩
  | d :: ds, u :: us, h => by
    unfold okGs at h
    rw [Bool.and_eq_true] at h
    obtain ⟨a1, a2⟩ := okG_of w h.1
    obtain ⟨b1, b2⟩ := okGs_of w h.2
    exact ⟨.cons a1 b1, fun H => .cons (a2 H) (b2 H)⟩
  | [], _ :: _, h => by
    unfold okGs at h
    cases h
  | _ :: _, [], h => by
    unfold okGs at h
    cases h
end
def glOk (gl : List (Str × PyData)) (K : PySem.W.Frag) : Bool := gl.all fun p => match PySem.W.nsIn K mainGlobals p.1 with
  | some (some u) => okG K p.2 u
  | _ => false
theorem glOk_of (w : World) {gl : List (Str × PyData)} {K : PySem.W.Frag} {h : Heap} {mg : Str → Option Value} (X : K.In h) (G : h.Ns mainGlobals mg) (c : glOk gl K = true) : ∀ p ∈ gl, ∃ u v, mg p.1 = some u ∧ RelV v u ∧ ∀ H, Rep ⟨K, w⟩ H v p.2 := fun p hp => by
  have c2 := List.all_eq_true.mp c p hp
  split at c2
  · rename_i u e
    obtain ⟨h1, h2⟩ := okG_of w c2
    exact ⟨u, glV u, PySem.W.mg_of X G e, h1, h2⟩
  · cases c2
def asM (g : Addr → Option Obj) (n : Nat) : List Addr := sysModules :: He.asD g n
abbrev AlM : Type := He.AlD × Bool
def obsK (fa : List He.Fa) (fn : List He.DefD) (gl : List (Str × PyData)) (K : PySem.W.Frag) : AlM := (He.obsD fa fn K, ((K.lookup sysModules).isSome && K.all notLst) && glOk gl K)
def SaysM (fa : List He.Fa) (fn : List He.DefD) (gl : List (Str × PyData)) (K : PySem.W.Frag) : Prop := obsK fa fn gl K = (He.valD fn, true)
def obsM (n : Nat) (fa : List He.Fa) (fn : List He.DefD) (gl : List (Str × PyData)) (g : Addr → Option Obj) : AlM := obsK fa fn gl (He.frG g (asM g n))
def hookM (n : Nat) (fa : List He.Fa) (fn : List He.DefD) (gl : List (Str × PyData)) : PySem.W.Hook where
  α := AlM
  obs := fun s => obsM n fa fn gl s.heap.get?
  val := fun _ => (He.valD fn, true)
  says := fun _ h => ∃ K : PySem.W.Frag, K.In h ∧ SaysM fa fn gl K
  of := fun _ _ e => ⟨_, He.frG_in, e⟩
  keeps := fun _ _ _ ⟨K, hK, c⟩ k => ⟨K, PySem.W.Frag.In.keeps hK k, c⟩
theorem obsM_eq {n : Nat} {fa : List He.Fa} {fn : List He.DefD} {gl : List (Str × PyData)} {g : Addr → Option Obj} {s : Shared} (h : ∀ a, g a = s.heap.get? a) : obsM n fa fn gl g = (hookM n fa fn gl).obs s := by
  have e : g = s.heap.get? := funext h
  rw [e] <;> rfl
section
variable {fa : List He.Fa} {fn : List He.DefD} {gl : List (Str × PyData)} {K : PySem.W.Frag}
theorem SaysM.d (c : SaysM fa fn gl K) : He.SaysD fa fn K := congrArg (fun z : AlM => z.1) c
theorem SaysM.sys (c : SaysM fa fn gl K) : ∃ o, K.lookup sysModules = some o := by
  have h : (((K.lookup sysModules).isSome && K.all notLst) && glOk gl K) = true := congrArg (fun z : AlM => z.2) c
  rw [Bool.and_eq_true, Bool.and_eq_true] at h
  exact Option.isSome_iff_exists.mp h.1.1
theorem SaysM.gls (c : SaysM fa fn gl K) : glOk gl K = true := by
  have h : (((K.lookup sysModules).isSome && K.all notLst) && glOk gl K) = true := congrArg (fun z : AlM => z.2) c
  rw [Bool.and_eq_true, Bool.and_eq_true] at h
  exact h.2
theorem mem_of_lk {α : Type} : ∀ {l : List (Addr × α)} {a : Addr} {o : α}, l.lookup a = some o → (a, o) ∈ l
  | [], _, _, h => by cases h
  | (b, x) :: r, a, o, h => by
    rw [List.lookup_cons] at h
    cases hb : a == b with
    | true =>
      rw [hb] at h
      cases h
      have : a = b := by simpa using hb
      subst this
      exact List.mem_cons_self ..
    | false =>
      rw [hb] at h
      exact List.mem_cons_of_mem _ (mem_of_lk h)
theorem SaysM.noL (c : SaysM fa fn gl K) {a : Addr} {o : Obj} (h : K.lookup a = some o) : o.cls ≠ .type "list" := fun z => by
  have h2 : (((K.lookup sysModules).isSome && K.all notLst) && glOk gl K) = true := congrArg (fun z : AlM => z.2) c
  rw [Bool.and_eq_true, Bool.and_eq_true] at h2
  have h3 := List.all_eq_true.mp h2.1.2 _ (mem_of_lk h)
  unfold notLst at h3
  simp only [z] at h3
  simp at h3
end
/-! ### the law is called -/
theorem law_m {P : Program} {w : World} {K : PySem.W.Frag} {mg mb : Str → Option Value} {k : Nat} {fa a : Addr} {φ : List (Bool × PyData) → Option ((Bool × PyData) × List PyData)} {s₁ : Shared} {vs : List Value} {ns : List Int}
    (KX : K.In s₁.heap) (hnl : ∀ {b : Addr} {o : Obj}, K.lookup b = some o → o.cls ≠ .type "list") (hsys : ∃ o, K.lookup sysModules = some o) (hns : s₁.heap.Ns mainGlobals mg) (hb : s₁.heap.Ns builtinsNs mb) (hbb : ∀ x : Str, x ≠ "__name__" → mb x = bootBuiltins x) (hlim : s₁.heap.NoLimit) (hg : s₁.gens = #[])
    (ha : s₁.heap.get? a = some { cls := .type "list", data := .seq vs.toArray }) (hi : IntsAre vs ns) (hl : ns.length ≤ sizeLine) (hr : Room k callerA)
    (F : ∀ base : Heap, K.In base → base.Ns mainGlobals mg → FnL P w K mg base k fa φ [false]) (hφ : ∃ fin, φ [(false, .list (ns.map .int))] = some ((false, .bool true), fin)) :
    codeAny (model P w) callerA (.call (.ref fa) ⟨[.ref a], []⟩) (fun r s' => r = .ok (.ret (.bool true)) ∧ OldK s₁.heap s'.heap ∧ s'.os = s₁.os ∧ AllBare s'.gens) s₁ := by
  have rv := vals_ints hi
  have lenV := hi.length
  have hk : K.lookup a = none := by
    cases h : K.lookup a with
    | none => rfl
    | some o =>
      have e := KX a o h
      rw [ha] at e
      cases e
      exact absurd rfl (hnl h)
  have hns' : a ≠ sysModules := fun z => by
    obtain ⟨o, h⟩ := hsys
    rw [← z, hk] at h
    cases h
  let H : Hp := fun b => if b = a then some (.frz { cls := .type "list", data := .seq vs.toArray } (.lst (ns.map V.int))) else none
  have Ha : H a = some (.frz { cls := .type "list", data := .seq vs.toArray } (.lst (ns.map V.int))) := if_pos rfl
  have Hn : ∀ {b : Addr}, b ≠ a → H b = none := fun h => if_neg h
  have hok : HOk P w H s₁.heap := fun b u z => by
    by_cases hb : b = a
    · subst hb
      rw [Ha] at z
      cases z
      exact ⟨ha, by rw [List.length_map]; exact hl, vs, _, rv, ha⟩
    · rw [Hn hb] at z
      cases z
  have base_of : ∀ {b : Addr} {o : Obj}, s₁.heap.get? b = some o → b ≠ a → (hidT s₁.heap H).get? b = some o := fun e n => hidT_get e (Hn n)
  have noA : ∀ {b : Addr} {o : Obj} {es : Array DictEntry} {ep : Nat}, s₁.heap.get? b = some o → o.data = .dict es ep → b ≠ a := fun {b o es ep} e d z => by
    subst z
    rw [ha] at e
    cases e
    have d' : Data.seq vs.toArray _ = Data.dict es ep := d
    cases d'
  have nsK : ∀ {b : Addr} {m : Str → Option Value}, s₁.heap.Ns b m → (hidT s₁.heap H).Ns b m := fun {b m} ⟨o, es, ep, e, d, r⟩ => ⟨o, es, ep, base_of e (noA e d), d, r⟩
  have hKb : K.In (hidT s₁.heap H) := fun b o e => base_of (KX b o e) fun z => by rw [z, hk] at e; cases e
  have hM : Mod K mg (hidT s₁.heap H) := ⟨hKb, nsK hns, ⟨mb, nsK hb, hbb⟩, let ⟨mc, h1, h2⟩ := hlim; ⟨mc, nsK h1, h2⟩⟩
  have e0 : Env0 P w K mg (hidT s₁.heap H) callerA [] s₁ H := ⟨rfl, hM, fun b o e => of_hidT e, Nat.le_of_eq (hidT_size _ _), trivial, fun b hb => absurd (show b ∈ ([] : List Addr) from hb) (by simp), hok, .of_eq hg⟩
  obtain ⟨fin, hφ⟩ := hφ
  have rl : RepAll ⟨K, w⟩ H (ns.map V.int) (ns.map PyData.int) := by
    have : ∀ l : List Int, RepAll ⟨K, w⟩ H (l.map V.int) (l.map PyData.int) := fun l => by
      induction l with
      | nil => exact .nil
      | cons n l ih => exact .cons (.int n) ih
    exact this ns
  refine codeAny_mono (F _ hKb (nsK hns) callerA hr rfl [] s₁ H [.ref a] [.ref a] (fun v _ => v = .bl true) e0 (.cons rfl .nil) ⟨[.list (ns.map .int)], _, fin, rfl, hφ, .sh (.lst Ha hns' rl) .nil, by simp [mutA], fun x H' p => ?_⟩) fun r s' h => ?_
  · have q : Rep ⟨K, w⟩ H' x (.bool true) := p.res
    cases q
    rfl
  · cases r with
    | error e => exact h.elim
    | ok fl =>
      cases fl with
      | next => exact False.elim h
      | brk => exact False.elim h
      | cont => exact False.elim h
      | ret u =>
        obtain ⟨v, H', os, bare, un, hok', r', q⟩ := h
        have q' : v = .bl true := q
        subst q'
        obtain rfl : u = Value.bool true := r'
        refine ⟨rfl, OldK.of_keep fun b o e => ?_, os, bare⟩
        by_cases hba : b = a
        · subst hba
          have z2 := un.frzs b _ _ Ha
          obtain ⟨e2, _⟩ := hok' b _ z2
          rw [ha] at e
          cases e
          exact e2
        · exact un.keep b o e (Hn hba) (by intro z; exact absurd (show b ∈ ([] : List Addr) from z) (by simp)) (by simp)
/-- a law's walk -/
theorem walk_m {l : PySem.W.OpenLaw} {n k : Nat} {q : Program} {loose : List Str} {XP : (Str → Option Value) → Heap → Prop} {d : DefRec} {fas : List He.Fa} {fns : List He.DefD} {gl : List (Str × PyData)} {dep : Nat} {φ : List (Bool × PyData) → Option ((Bool × PyData) × List PyData)}
    (hn : l.most = some n) (hn2 : n ≤ sizeLine) (hdf : d.params.defaults = []) (hr : Room k callerA)
    (F : ∀ (w : World) (K : PySem.W.Frag) (mg : Str → Option Value) (fa : Addr) (h : Heap), K.In h → SaysM fas fns gl K → h.Ns mainGlobals mg → mg d.name = some (.ref fa) → ∀ base : Heap, K.In base → base.Ns mainGlobals mg → FnL l.prog w K mg base k fa φ [false])
    (hφ : ∀ ns : List Int, ns.length ≤ n → ∃ fin, φ [(false, .list (ns.map .int))] = some ((false, .bool true), fin)) :
    PySem.W.WalkO q loose XP (hookM dep fas fns gl).says l.row.toRowW d [] (fun f vs => PySem.call f vs) := by
  refine Att.attach_call hn hdf fun w s₀ s₁ mg mb fa o pm cd doc a vs ns G Y ho hd hcd hmg hobj hints hlen hg => ?_
  obtain ⟨K, KX, c⟩ := Y
  exact law_m KX (fun h => c.noL h) c.sys G.T.g G.T.b G.T.builtins G.T.nolimit hg hobj hints (Nat.le_trans hlen hn2) hr (F w K mg fa _ KX c G.T.g hmg) (hφ ns hlen)
end MP

/-! MP: a table of defs. -/
namespace MP
open PySem PySem.W PySem.Calls PySem.Spec PyProof.Rows L2
/-- a def of the table: its meaning, its name, its text, its names, its parameters -/
structure Df where
  F : Fn
  name : Str
  st : Stmt
  N : List Str
  ps : List Str
abbrev Df.dd (d : Df) : He.DefD := ⟨(d.name, none), d.name, d.name, defArgs d.st, defBody d.st, defScope d.st, [], []⟩
abbrev ckOf (tb : List Df) (gl : List (Str × PyData)) (d : Df) : Ck := ⟨d.N, defScope d.st, fun _ => true, tb.map (·.name), gl⟩
abbrev tbF (tb : List Df) : List Fn := tb.map (·.F)
abbrev tbFa (tb : List Df) (more : List He.Fa) : List He.Fa := (tb.map fun d => He.Fa.glo d.name) ++ (blts.map He.Fa.free ++ more)
structure DfOk (tb : List Df) (gl : List (Str × PyData)) (d : Df) : Prop where
  S : FnScope d.N d.ps (defScope d.st)
  hb : ∀ (kV doc pm : Value) (an : Option Addr) (cdv ct : Value) (us : List Value), us.length = d.ps.length → bindArgs (PySem.W.fnOf d.name d.name (defArgs d.st) (defBody d.st) (defScope d.st) .none kV doc pm an cdv ct) ⟨us, []⟩ = pure (d.ps.zip us)
  mu : d.F.mu.length = d.ps.length
  sl : d.F.slots = d.N.length
  ck : chkSs (ckOf tb gl d) d.F.body (defBody d.st) = true
theorem tab {P : Program} {w : World} {K : PySem.W.Frag} {mg : Str → Option Value} {base h : Heap} {tb : List Df} {gl : List (Str × PyData)} {more : List He.Fa} (X : K.In h) (G : h.Ns mainGlobals mg) (c : SaysM (tbFa tb more) (tb.map Df.dd) gl K) (ok : ∀ d ∈ tb, DfOk tb gl d) : ∀ (n i : Nat) (d : Df), tb[i]? = some d → FnL P w K mg base n (He.fAd K (d.name, none)) (run (tbF tb) n i) d.F.mu := by
  have gls := glOk_of w X G c.gls
  intro n
  induction n with
  | zero =>
    intro i d hd A hr hg outer s H us vs Q e0 r hsp
    obtain ⟨ds, rr, fin, hl, hrun, _⟩ := hsp
    unfold run at hrun
    cases hrun
  | succ n ih =>
    intro i d hd
    have hm : d ∈ tb := List.mem_of_getElem? hd
    have O := ok d hm
    obtain ⟨fd, F⟩ := c.d.defs (d := d.dd) (List.mem_map.mpr ⟨d, hm, rfl⟩)
    obtain ⟨oc, od, dV, kV, doc, pm, an, cdv, ct, osl, rfl, lk, hcd, hD, hK⟩ := F.ex
    rcases hD with ⟨_, rfl⟩ | ⟨e, _⟩
    · refine fnL_of (T := tbF tb) (F := d.F) (g := i) (c := ckOf tb gl d) ?_ lk hcd O.S (fun us hu => O.hb kV doc pm an cdv ct us hu) O.mu O.sl rfl rfl O.ck c.sys (fun x hx => ?_) (fun f x hx => ?_) gls
      · show (tb.map (·.F))[i]? = _
        rw [List.getElem?_map, hd]
        rfl
      · exact He.free_ok X G (c.d.facts (f := .free x) (List.mem_append.mpr (.inr (List.mem_append.mpr (.inl (List.mem_map.mpr ⟨x, hx, rfl⟩))))))
      · have hx' : (tb.map (·.name))[f]? = some x := hx
        rw [List.getElem?_map] at hx'
        cases hf : tb[f]? with
        | none => rw [hf] at hx'; cases hx'
        | some d' =>
          rw [hf] at hx'
          cases hx'
          have hm' : d' ∈ tb := List.mem_of_getElem? hf
          obtain ⟨fd', F'⟩ := c.d.defs (d := d'.dd) (List.mem_map.mpr ⟨d', hm', rfl⟩)
          have q := He.glo_ok X G (c.d.facts (f := .glo d'.name) (List.mem_append.mpr (.inl (List.mem_map.mpr ⟨d', hm', rfl⟩))))
          have z := ih f d' hf
          have e2 : ((((tbF tb)[f]?).map (·.mu)).getD []) = d'.F.mu := by
            show ((((tb.map (·.F))[f]?).map (·.mu)).getD []) = _
            rw [List.getElem?_map, hf]
            rfl
          rw [e2]
          exact ⟨_, q, F'.kp, z⟩
    · exact absurd rfl e
end MP

/-! W1: rules for the meaning, as equations of propositions (for simp). Environments must be written out. -/
namespace MP
open PySem
def ok2 {α β : Type} (o : Option (α × β)) (Q : α → β → Prop) : Prop := ∃ a b, o = some (a, b) ∧ Q a b
def kd {α : Type} (o : Option α) (k : α → Prop) : Prop := ∃ a, o = some a ∧ k a
section
variable {α β γ δ : Type}
theorem ok2_none {Q : α → β → Prop} : ok2 none Q ↔ False := by simp [ok2]
theorem ok2_some {a : α} {b : β} {Q : α → β → Prop} : ok2 (some (a, b)) Q ↔ Q a b := by
  constructor
  · rintro ⟨_, _, h, q⟩
    cases h
    exact q
  · exact fun q => ⟨_, _, rfl, q⟩
theorem kd_none {k : α → Prop} : kd none k ↔ False := by simp [kd]
theorem kd_some {a : α} {k : α → Prop} : kd (some a) k ↔ k a := by simp [kd]
theorem kd_map {f : α → β} {o : Option α} {k : β → Prop} : kd (o.map f) k ↔ kd o fun a => k (f a) := by cases o <;> simp [kd]
theorem kd_bind {f : α → Option β} {o : Option α} {k : β → Prop} : kd (o.bind f) k ↔ kd o fun a => kd (f a) k := by cases o <;> simp [kd]
theorem kd_if {c : Prop} [Decidable c] {a : α} {k : α → Prop} : kd (if c then some a else none) k ↔ c ∧ k a := by by_cases h : c <;> simp [kd, h]
theorem ok2.mono {o : Option (α × β)} {Q R : α → β → Prop} (h : ok2 o Q) (k : ∀ a b, Q a b → R a b) : ok2 o R := by
  obtain ⟨a, b, e, q⟩ := h
  exact ⟨a, b, e, k a b q⟩
theorem kd.mono {o : Option α} {Q R : α → Prop} (h : kd o Q) (k : ∀ a, Q a → R a) : kd o R := by
  obtain ⟨a, e, q⟩ := h
  exact ⟨a, e, k a q⟩
end
/-- a truth value -/
def kb (d : PyData) (k : Bool → Prop) : Prop := ∃ b, d = .bool b ∧ k b
theorem kb_bool {b : Bool} {k : Bool → Prop} : kb (.bool b) k ↔ k b := by simp [kb]
/-- two ways; they wait for the environment -/
def kite (b : Bool) (A B : Env → Prop) (ρ : Env) : Prop := (b = true → A ρ) ∧ (b = false → B ρ)
section
variable {A B : Env → Prop} {ρ : Env} {b : Bool} {p : Prop} [Decidable p]
theorem kite_t : kite true A B ρ ↔ A ρ := by simp [kite]
theorem kite_f : kite false A B ρ ↔ B ρ := by simp [kite]
theorem kite_n : kite (!b) A B ρ ↔ kite b B A ρ := by cases b <;> simp [kite]
theorem kite_i (h : b = true → A ρ) (k : b = false → B ρ) : kite b A B ρ := ⟨h, k⟩
theorem kite_d {p : Prop} {i : Decidable p} (h : p → A ρ) (k : ¬p → B ρ) : kite (@decide p i) A B ρ := ⟨fun z => h (of_decide_eq_true z), fun z => k (of_decide_eq_false z)⟩
end
def kfl (fl : Fl) (n c b : Prop) (r : Bool × PyData → Prop) : Prop := match fl with
  | .nx => n
  | .ct => c
  | .br => b
  | .rt v => r v
/-- how a list of statements goes on -/
def knx (fl : Fl) (ρ : Env) (A : Env → Prop) (Q : Fl → Env → Prop) : Prop := match fl with
  | .nx => A ρ
  | .ct => Q .ct ρ
  | .br => Q .br ρ
  | .rt v => Q (.rt v) ρ
theorem knx_nx {ρ : Env} {A : Env → Prop} {Q : Fl → Env → Prop} : knx .nx ρ A Q ↔ A ρ := Iff.rfl
theorem knx_ct {ρ : Env} {A : Env → Prop} {Q : Fl → Env → Prop} : knx .ct ρ A Q ↔ Q .ct ρ := Iff.rfl
theorem knx_br {ρ : Env} {A : Env → Prop} {Q : Fl → Env → Prop} : knx .br ρ A Q ↔ Q .br ρ := Iff.rfl
theorem knx_rt {ρ : Env} {A : Env → Prop} {Q : Fl → Env → Prop} {v : Bool × PyData} : knx (.rt v) ρ A Q ↔ Q (.rt v) ρ := Iff.rfl
/-- a turn of a loop: onward, or out -/
def kturn (fl : Fl) (ρ : Env) (N : Env → Prop) (Q : Fl → Env → Prop) : Prop := match fl with
  | .nx => N ρ
  | .ct => N ρ
  | .br => Q .nx ρ
  | .rt v => Q (.rt v) ρ
theorem kturn_nx {ρ : Env} {A : Env → Prop} {Q : Fl → Env → Prop} : kturn .nx ρ A Q ↔ A ρ := Iff.rfl
theorem kturn_ct {ρ : Env} {A : Env → Prop} {Q : Fl → Env → Prop} : kturn .ct ρ A Q ↔ A ρ := Iff.rfl
theorem kturn_br {ρ : Env} {A : Env → Prop} {Q : Fl → Env → Prop} : kturn .br ρ A Q ↔ Q .nx ρ := Iff.rfl
theorem kturn_rt {ρ : Env} {A : Env → Prop} {Q : Fl → Env → Prop} {v : Bool × PyData} : kturn (.rt v) ρ A Q ↔ Q (.rt v) ρ := Iff.rfl

/-! ### what stands in the environment -/
/-- a slot's word -/
def slR (i : Nat) (o : Option (Option (Bool × PyData))) : Option Res := match o with
  | some (some (true, _)) => some (.bor i)
  | some (some (false, d)) => some (.sh d)
  | _ => none
theorem slR_t {i : Nat} {d : PyData} : slR i (some (some (true, d))) = some (.bor i) := rfl
theorem slR_f {i : Nat} {d : PyData} : slR i (some (some (false, d))) = some (.sh d) := rfl
def slB (o : Option (Option (Bool × PyData))) : Option PyData := match o with
  | some (some (true, d)) => some d
  | _ => none
theorem slB_t {d : PyData} : slB (some (some (true, d))) = some d := rfl
theorem valOf_sh {ρ : Env} {d : PyData} : valOf ρ (.sh d) = some d := rfl
theorem valOf_own {ρ : Env} {d : PyData} : valOf ρ (.own d) = some d := rfl
theorem valOf_borC {x : Option (Bool × PyData)} {l : Env} {i : Nat} : valOf (x :: l) (.bor i) = slB ((x :: l)[i]?) := rfl
theorem valsOf_nil {ρ : Env} : valsOf ρ [] = some [] := rfl
theorem valsOf_cons {ρ : Env} {r : Res} {rs : List Res} : valsOf ρ (r :: rs) = (valOf ρ r).bind fun d => (valsOf ρ rs).map (d :: ·) := by
  rw [valsOf]
  cases valOf ρ r <;> cases valsOf ρ rs <;> rfl
def fzE (ρ : Env) (i : Nat) (o : Option (Option (Bool × PyData))) : Env := match o with
  | some (some (true, d)) => ρ.set i (some (false, d))
  | _ => ρ
theorem fzE_t {ρ : Env} {i : Nat} {d : PyData} : fzE ρ i (some (some (true, d))) = ρ.set i (some (false, d)) := rfl
theorem fzE_f {ρ : Env} {i : Nat} {d : PyData} : fzE ρ i (some (some (false, d))) = ρ := rfl
theorem frzR_sh {ρ : Env} {d : PyData} : frzR ρ (.sh d) = ρ := rfl
theorem frzR_own {ρ : Env} {d : PyData} : frzR ρ (.own d) = ρ := rfl
theorem frzR_bor {x : Option (Bool × PyData)} {l : Env} {i : Nat} : frzR (x :: l) (.bor i) = fzE (x :: l) i ((x :: l)[i]?) := rfl
theorem frzRs_nil {ρ : Env} : frzRs ρ [] = ρ := rfl
theorem frzRs_cons {ρ : Env} {r : Res} {rs : List Res} : frzRs ρ (r :: rs) = frzRs (frzR ρ r) rs := rfl
theorem fixB_sh {ρ ρ' : Env} {d : PyData} : fixB ρ ρ' (.sh d) = .sh d := rfl
theorem fixB_own {ρ ρ' : Env} {d : PyData} : fixB ρ ρ' (.own d) = .own d := rfl
theorem fixB_bor {x y : Option (Bool × PyData)} {l m : Env} {i : Nat} : fixB (x :: l) (y :: m) (.bor i) = fxB i ((x :: l)[i]?) ((y :: m)[i]?) := rfl
theorem fxB_t {i : Nat} {d d' : PyData} : fxB i (some (some (true, d))) (some (some (true, d'))) = .bor i := rfl
theorem fxB_f {i : Nat} {d d' : PyData} : fxB i (some (some (true, d))) (some (some (false, d'))) = .sh d' := rfl
theorem mkR_f {d : PyData} : mkR (false, d) = .sh d := rfl
theorem mkR_t {d : PyData} : mkR (true, d) = .own d := rfl
theorem asSeq_l {xs : List PyData} : asSeq (.list xs) = some xs := rfl
theorem asSeq_t {xs : List PyData} : asSeq (.tuple xs) = some xs := rfl
section
variable {mp : List Nat} {ρ : Env} {i j : Nat} {d : PyData}
theorem asgV_sh (h : (mp.contains i || !decide (i < ρ.length)) = false) : asgV mp i (.sh d) ρ = some (ρ.set i (some (false, d))) := by
  unfold asgV
  rw [h]
  rfl
theorem asgV_own (h : (mp.contains i || !decide (i < ρ.length)) = false) : asgV mp i (.own d) ρ = some (ρ.set i (some (true, d))) := by
  unfold asgV
  rw [h]
  rfl
theorem asgV_bor (h : (mp.contains i || !decide (i < ρ.length)) = false) (h3 : mp.contains j = false) : asgV mp i (.bor j) ρ = (valOf ρ (.bor j)).map fun d => (frzR ρ (.bor j)).set i (some (false, d)) := by
  unfold asgV
  simp only [h, h3]
  cases valOf ρ (.bor j) <;> rfl
theorem asgR_var {r : Res} : asgR mp (.var i) r ρ = asgV mp i r ρ := rfl
theorem asgR_tup {ts : Tgs} {r : Res} : asgR mp (.tup ts) r ρ = (valOf ρ r).bind fun d => asgT mp (.tup ts) d (frzR ρ r) := by
  unfold asgR
  cases valOf ρ r <;> rfl
theorem asgT_var : asgT mp (.var i) d ρ = asgV mp i (.sh d) ρ := by
  rw [asgT]
  rfl
theorem asgT_t {ts : Tgs} {xs : List PyData} : asgT mp (.tup ts) (.tuple xs) ρ = asgTs mp ts xs ρ := by rw [asgT]
theorem asgT_l {ts : Tgs} {xs : List PyData} : asgT mp (.tup ts) (.list xs) ρ = asgTs mp ts xs ρ := by rw [asgT]
theorem asgTs_nil : asgTs mp .nil [] ρ = some ρ := by rw [asgTs]
theorem asgTs_cons {t : Tg} {r : Tgs} {x : PyData} {xs : List PyData} : asgTs mp (.cons t r) (x :: xs) ρ = (asgT mp t x ρ).bind (asgTs mp r xs) := by
  rw [asgTs]
  cases asgT mp t x ρ <;> rfl
theorem putAll_nil : putAll [] [] ρ = some ρ := rfl
theorem putAll_cons {is : List Nat} {ds : List PyData} : putAll (i :: is) (d :: ds) ρ = putAll is ds (ρ.set i (some (true, d))) := rfl
theorem wipe_nil : wipe ρ [] = ρ := rfl
theorem wipe_cons {vs : List Nat} : wipe ρ (i :: vs) = (wipe ρ vs).set i none := rfl
theorem fxR_nil : fxR ρ [] = some [] := rfl
theorem fxR_sh {rs : List Res} : fxR ρ (.sh d :: rs) = (fxR ρ rs).map (.sh d :: ·) := by
  rw [fxR]
  · cases fxR ρ rs <;> rfl
  · simp
theorem fxR_own {rs : List Res} : fxR ρ (.own d :: rs) = (fxR ρ rs).map (.own d :: ·) := by
  rw [fxR]
  · cases fxR ρ rs <;> rfl
  · simp
theorem fxR_bor {rs : List Res} : fxR ρ (.bor j :: rs) = (valOf ρ (.bor j)).bind fun d => (fxR ρ rs).map (.sh d :: ·) := by
  rw [fxR]
  cases valOf ρ (.bor j) <;> cases fxR ρ rs <;> rfl
theorem notB_nil : notB [] = [] := rfl
theorem notB_sh {rs : List Res} : notB (.sh d :: rs) = true :: notB rs := rfl
theorem notB_own {rs : List Res} : notB (.own d :: rs) = true :: notB rs := rfl
theorem notB_bor {rs : List Res} : notB (.bor j :: rs) = false :: notB rs := rfl
theorem fz_nil {α : Type} {rs : List α} : fz [] rs = [] := by unfold fz; rfl
theorem fz_t {α : Type} {ms : List Bool} {r : α} {rs : List α} : fz (true :: ms) (r :: rs) = fz ms rs := rfl
theorem fz_f {α : Type} {ms : List Bool} {r : α} {rs : List α} : fz (false :: ms) (r :: rs) = r :: fz ms rs := rfl
theorem mutPl_nil : mutPl [] [] = [] := rfl
theorem mutPl_t {ms : List Bool} {rs : List Res} : mutPl (true :: ms) (.bor i :: rs) = i :: mutPl ms rs := rfl
theorem mutPl_f {ms : List Bool} {r : Res} {rs : List Res} : mutPl (false :: ms) (r :: rs) = mutPl ms rs := by cases r <;> rfl
theorem argVals_nil : argVals ρ [] [] = some [] := rfl
theorem argVals_cons {m : Bool} {ms : List Bool} {r : Res} {rs : List Res} : argVals ρ (m :: ms) (r :: rs) = (valOf ρ r).bind fun d => (argVals ρ ms rs).map ((m, d) :: ·) := by
  rw [argVals]
  cases valOf ρ r <;> cases argVals ρ ms rs <;> rfl
theorem finals_nil : finals ρ [] = some [] := rfl
theorem finals_cons {is : List Nat} : finals ρ (i :: is) = (valOf ρ (.bor i)).bind fun d => (finals ρ is).map (d :: ·) := by
  rw [finals]
  cases valOf ρ (.bor i) <;> cases finals ρ is <;> rfl
theorem partI_nil : partI (some []) = some none := rfl
theorem partI_int {z : Int} : partI (some [.int z]) = some (some z) := rfl
end
/-- does it stay -/
def stE (o : Op) (ρ : Env) (rs : List Res) : Env := if o.stores then frzRs ρ rs else ρ
theorem stE_tup {ρ : Env} {rs : List Res} : stE .tup ρ rs = frzRs ρ rs := rfl
theorem stE_lst {ρ : Env} {rs : List Res} : stE .lst ρ rs = frzRs ρ rs := rfl
theorem stE_no {o : Op} {ρ : Env} {rs : List Res} (h : o.stores = false) : stE o ρ rs = ρ := by
  unfold stE
  rw [h]
  rfl
section
variable {b : Bn} {c : Cm} {v : Bool} {ts : List Tn} {ρ : Env} {rs : List Res}
theorem stE_bin_ : stE (.bin b) ρ rs = ρ := rfl
theorem stE_neg_ : stE .neg ρ rs = ρ := rfl
theorem stE_not_ : stE .not ρ rs = ρ := rfl
theorem stE_cmp_ : stE (.cmp c) ρ rs = ρ := rfl
theorem stE_isN_ : stE .isN ρ rs = ρ := rfl
theorem stE_nisN_ : stE .nisN ρ rs = ρ := rfl
theorem stE_isB_ : stE (.isB v) ρ rs = ρ := rfl
theorem stE_len_ : stE .len ρ rs = ρ := rfl
theorem stE_isa_ : stE (.isa ts) ρ rs = ρ := rfl
theorem stE_int_ : stE .int ρ rs = ρ := rfl
theorem stE_tuple_ : stE .tuple ρ rs = ρ := rfl
theorem stE_list_ : stE .list ρ rs = ρ := rfl
theorem stE_sum_ : stE .sum ρ rs = ρ := rfl
theorem stE_sorted_ : stE .sorted ρ rs = ρ := rfl
theorem stE_all_ : stE .all ρ rs = ρ := rfl
theorem stE_any_ : stE .any ρ rs = ρ := rfl
theorem stE_repr_ : stE .repr ρ rs = ρ := rfl
theorem stE_min1_ : stE .min1 ρ rs = ρ := rfl
theorem stE_max1_ : stE .max1 ρ rs = ρ := rfl
theorem stE_min2_ : stE .min2 ρ rs = ρ := rfl
theorem stE_max2_ : stE .max2 ρ rs = ρ := rfl
theorem stE_lrng_ : stE .lrng ρ rs = ρ := rfl
theorem stE_trng_ : stE .trng ρ rs = ρ := rfl
theorem stE_idx_ : stE .idx ρ rs = ρ := rfl
theorem stE_index_ : stE .index ρ rs = ρ := rfl
end
/-! ### judgements -/
def Wc (Φ : Ph) (f : Nat) (vs : List (Bool × PyData)) (Q : Bool × PyData → List PyData → Prop) : Prop := ok2 (Φ f vs) Q
theorem Wc.mono {Φ : Ph} {f : Nat} {vs : List (Bool × PyData)} {Q R : Bool × PyData → List PyData → Prop} (h : Wc Φ f vs Q) (k : ∀ a b, Q a b → R a b) : Wc Φ f vs R := ok2.mono h k
def Wo (o : Op) (ds : List PyData) (Q : Bool × PyData → Prop) : Prop := kd (opS o ds) Q
section
variable (Φ : Ph) (Mu : Nat → List Bool) (mp : List Nat)
def We (e : Ex) (ρ : Env) (Q : Res → Env → Prop) : Prop := ok2 (den Φ Mu mp e ρ) Q
def Wes (es : Exs) (ρ : Env) (Q : List Res → Env → Prop) : Prop := ok2 (dens Φ Mu mp es ρ) Q
def Wb (w : Bool) (es : Exs) (ρ : Env) (Q : Bool → Env → Prop) : Prop := ok2 (denB Φ Mu mp w es ρ) Q
def Wi (i : It) (ρ : Env) (Q : List PyData → Env → Prop) : Prop := ok2 (denI Φ Mu mp i ρ) Q
def Ws (s : St) (ρ : Env) (Q : Fl → Env → Prop) : Prop := ok2 (exec Φ Mu mp s ρ) Q
def Wss (s : Sts) (ρ : Env) (Q : Fl → Env → Prop) : Prop := ok2 (execs Φ Mu mp s ρ) Q
/-- a loop over items -/
def Wf (t : Tg) (b : Sts) (xs : List PyData) (ρ : Env) (Q : Fl → Env → Prop) : Prop := ok2 (loopF (tgB mp t fun ρ => execs Φ Mu mp b ρ) xs ρ) Q
/-- a while -/
def Ww (c : Ex) (b : Sts) (ρ : Env) (Q : Fl → Env → Prop) : Prop := ok2 (whileD (bT (den Φ Mu mp c)) (fun ρ => execs Φ Mu mp b ρ) ρ) Q
/-- what is listed, once -/
abbrev kE (elt : Ex) : Env → Option (List PyData × Env) := fun ρ2 => match den Φ Mu mp elt ρ2 with
  | some (r, ρ3) => (match valOf ρ3 r with
    | some d => some ([d], frzR ρ3 r)
    | none => none)
  | none => none
/-- clauses over items -/
def Wl (elt : Ex) (cl : Cl) (xs : List PyData) (ρ : Env) (Q : List PyData → Env → Prop) : Prop := ok2 (denL Φ Mu mp (kE Φ Mu mp elt) cl xs ρ) Q
/-- a whole comprehension over items -/
def Wk (own : List Nat) (elt : Ex) (cl : Cl) (xs : List PyData) (ρ : Env) (Q : Res → Env → Prop) : Prop := Wl Φ Mu mp elt cl xs (wipe ρ own) fun ds ρ2 => szOk ds.length = true ∧ Q (.own (.list ds)) (back ρ ρ2 own)
/-- behind a call -/
def kafter (mu : List Bool) (rs : List Res) (ρ : Env) (Q : Res → Env → Prop) (r : Bool × PyData) (fin : List PyData) : Prop :=
  if mu.all (!·) && (!r.1 && isAt r.2) then Q (mkR r) ρ else kd (putAll (mutPl mu rs) fin (frzRs ρ (fz mu rs))) fun ρ2 => Q (mkR r) ρ2
/-- a call's arguments, a call, behind it -/
def kcall (mu : List Bool) (f : Nat) (rs : List Res) (ρ : Env) (Q : Res → Env → Prop) : Prop :=
  (argOk mu rs && (decide (mutPl mu rs).Nodup && (mutPl mu rs).all fun i => !(bors (fz mu rs)).contains i)) = true ∧ kd (argVals ρ mu rs) fun vs => Wc Φ f vs fun r fin => kafter mu rs ρ Q r fin
end
section
variable {rs : List Res} {ρ : Env} {Q : Res → Env → Prop} {r : Bool × PyData} {fin : List PyData} {mu : List Bool} {d : PyData}
theorem kafter_old (h : (mu.all (!·) && (!r.1 && isAt r.2)) = false) : kafter mu rs ρ Q r fin ↔ kd (putAll (mutPl mu rs) fin (frzRs ρ (fz mu rs))) fun ρ2 => Q (mkR r) ρ2 := by
  unfold kafter
  rw [h]
  exact Iff.rfl
theorem kafter_tf : kafter (true :: mu) rs ρ Q r fin ↔ kd (putAll (mutPl (true :: mu) rs) fin (frzRs ρ (fz (true :: mu) rs))) fun ρ2 => Q (mkR r) ρ2 := kafter_old (by simp)
theorem kafter_own : kafter mu rs ρ Q (true, d) fin ↔ kd (putAll (mutPl mu rs) fin (frzRs ρ (fz mu rs))) fun ρ2 => Q (.own d) ρ2 := kafter_old (by simp)
def allF : List Bool → Bool
  | [] => true
  | true :: _ => false
  | false :: r => allF r
theorem allF_all : ∀ {mu : List Bool}, allF mu = true → mu.all (!·) = true
  | [], _ => rfl
  | true :: _, h => by cases h
  | false :: r, h => by
    have := allF_all (mu := r) h
    simpa using this
theorem kafter_at (h : allF mu = true) (h2 : isAt d = true) : kafter mu rs ρ Q (false, d) fin ↔ Q (.sh d) ρ := by
  unfold kafter
  rw [allF_all h, h2]
  exact Iff.rfl
theorem kafter_no (h2 : isAt d = false) : kafter mu rs ρ Q (false, d) fin ↔ kd (putAll (mutPl mu rs) fin (frzRs ρ (fz mu rs))) fun ρ2 => Q (.sh d) ρ2 := kafter_old (by simp [h2])
theorem allN_nil : allF [] = true := by rw [allF]
theorem allN_f : allF (false :: mu) = allF mu := by rw [allF]
theorem isAt_n : isAt .none = true := by rw [isAt]
theorem isAt_b {b : Bool} : isAt (.bool b) = true := by rw [isAt]
theorem isAt_i {b : Int} : isAt (.int b) = true := by rw [isAt]
theorem isAt_s {b : Str} : isAt (.str b) = true := by rw [isAt]
theorem isAt_l {b : List PyData} : isAt (.list b) = false := by unfold isAt; exact id rfl
theorem isAt_t {b : List PyData} : isAt (.tuple b) = false := by unfold isAt; exact id rfl
end
theorem frzRs_none {ρ : Env} : ∀ {rs : List Res}, bors rs = [] → frzRs ρ rs = ρ
  | [], _ => rfl
  | .sh _ :: rs, h => frzRs_none (rs := rs) h
  | .own _ :: rs, h => frzRs_none (rs := rs) h
  | .bor _ :: _, h => by cases h
theorem fz_none : ∀ {mu : List Bool} {rs : List Res}, bors rs = [] → bors (fz mu rs) = []
  | [], _, _ => by unfold fz; rfl
  | true :: _, [], _ => rfl
  | false :: _, [], _ => rfl
  | true :: mu, .sh _ :: rs, h => fz_none (mu := mu) (rs := rs) h
  | true :: mu, .own _ :: rs, h => fz_none (mu := mu) (rs := rs) h
  | false :: mu, .sh _ :: rs, h => fz_none (mu := mu) (rs := rs) h
  | false :: mu, .own _ :: rs, h => fz_none (mu := mu) (rs := rs) h
  | _ :: _, .bor _ :: _, h => by cases h
theorem mutPl_none : ∀ {mu : List Bool} {rs : List Res}, allF mu = true → mutPl mu rs = []
  | [], _, _ => by unfold mutPl; rfl
  | true :: _, _, h => by cases h
  | false :: mu, [], _ => rfl
  | false :: mu, r :: rs, h => by
    rw [mutPl_f]
    exact mutPl_none (mu := mu) h
/-- nothing is borrowed -/
theorem kafter_sh {mu : List Bool} {rs : List Res} {ρ : Env} {Q : Res → Env → Prop} {r : Bool × PyData} (h : allF mu = true) (h2 : bors rs = []) : kafter mu rs ρ Q r [] ↔ Q (mkR r) ρ := by
  unfold kafter
  rw [mutPl_none h, frzRs_none (fz_none h2), putAll_nil, kd_some]
  split <;> rfl
theorem borsN_nil : bors [] = [] := by rw [bors]
theorem borsN_sh {d : PyData} {rs : List Res} : bors (.sh d :: rs) = bors rs := by rw [bors]; simp
theorem borsN_own {d : PyData} {rs : List Res} : bors (.own d :: rs) = bors rs := by rw [bors]; simp
end MP

/-! W2: the rules of expressions and statements. -/
namespace MP
open PySem
section
variable {Φ : Ph} {Mu : Nat → List Bool} {mp : List Nat} {ρ : Env} {x : Option (Bool × PyData)} {l : Env} {i j f : Nat} {e a b c : Ex} {es : Exs}
theorem We.mono {Q R : Res → Env → Prop} (h : We Φ Mu mp e ρ Q) (k : ∀ a b, Q a b → R a b) : We Φ Mu mp e ρ R := ok2.mono h k
theorem Wss.mono {s : Sts} {Q R : Fl → Env → Prop} (h : Wss Φ Mu mp s ρ Q) (k : ∀ a b, Q a b → R a b) : Wss Φ Mu mp s ρ R := ok2.mono h k
/-! general forms -/
theorem We_var' {Q : Res → Env → Prop} : We Φ Mu mp (.var i) ρ Q ↔ kd (slR i ρ[i]?) fun r => Q r ρ := by
  unfold We slR
  rw [den]
  rcases ρ[i]? with _ | _ | ⟨_ | _, d⟩ <;> simp [ok2_none, ok2_some, kd_none, kd_some]
theorem We_cst' {z : Cs} {Q : Res → Env → Prop} : We Φ Mu mp (.cst z) ρ Q ↔ Q (.sh (csD z)) ρ := by
  unfold We
  rw [den, ok2_some]
theorem We_glb' {z : String} {d : PyData} {Q : Res → Env → Prop} : We Φ Mu mp (.glb z d) ρ Q ↔ Q (.sh d) ρ := by
  unfold We
  rw [den, ok2_some]
theorem Wes_nil' {Q : List Res → Env → Prop} : Wes Φ Mu mp .nil ρ Q ↔ Q [] ρ := by
  unfold Wes
  rw [dens, ok2_some]
theorem Wes_cons' {Q : List Res → Env → Prop} : Wes Φ Mu mp (.cons e es) ρ Q ↔ We Φ Mu mp e ρ fun r ρ1 => Wes Φ Mu mp es ρ1 fun rs ρ2 => Q (fixB ρ1 ρ2 r :: rs) ρ2 := by
  unfold We Wes
  rw [dens]
  rcases den Φ Mu mp e ρ with _ | ⟨r, ρ1⟩
  · simp [ok2_none, ok2_some]
  · simp only [ok2_some]
    rcases dens Φ Mu mp es ρ1 with _ | ⟨rs, ρ2⟩ <;> simp [ok2_none, ok2_some]
theorem We_op' {o : Op} {Q : Res → Env → Prop} : We Φ Mu mp (.op o es) ρ Q ↔ Wes Φ Mu mp es ρ fun rs ρ1 => kd (valsOf ρ1 rs) fun ds => Wo o ds fun r => Q (mkR r) (stE o ρ1 rs) := by
  unfold We Wes Wo stE
  rw [den]
  rcases dens Φ Mu mp es ρ with _ | ⟨rs, ρ1⟩
  · simp [ok2_none, ok2_some]
  · simp only [ok2_some]
    cases valsOf ρ1 rs with
    | none => simp [ok2_none, ok2_some, kd_none, kd_some]
    | some ds =>
      simp only [kd_some]
      cases opS o ds <;> simp [ok2_none, ok2_some, kd_none, kd_some]
theorem We_and' {Q : Res → Env → Prop} : We Φ Mu mp (.and es) ρ Q ↔ Wb Φ Mu mp true es ρ fun b ρ1 => Q (.sh (.bool b)) ρ1 := by
  unfold We Wb
  rw [den]
  rcases denB Φ Mu mp true es ρ with _ | ⟨rs, ρ1⟩ <;> simp [ok2_none, ok2_some]
theorem We_or' {Q : Res → Env → Prop} : We Φ Mu mp (.or es) ρ Q ↔ Wb Φ Mu mp false es ρ fun b ρ1 => Q (.sh (.bool b)) ρ1 := by
  unfold We Wb
  rw [den]
  rcases denB Φ Mu mp false es ρ with _ | ⟨rs, ρ1⟩ <;> simp [ok2_none, ok2_some]
theorem Wb_nil' {w : Bool} {Q : Bool → Env → Prop} : Wb Φ Mu mp w .nil ρ Q ↔ Q w ρ := by
  unfold Wb
  rw [denB, ok2_some]
theorem denB_consW {w : Bool} : denB Φ Mu mp w (.cons e es) ρ = match den Φ Mu mp e ρ with
    | some (x, ρ1) => (match valOf ρ1 x with
      | some (.bool b) => if b = w then denB Φ Mu mp w es ρ1 else some (b, ρ1)
      | _ => none)
    | none => none := by
  refine (show _ = _ by rw [denB]).trans ?_
  rcases den Φ Mu mp e ρ with _ | ⟨x, ρ1⟩
  · rfl
  · rcases valOf ρ1 x with _ | d
    · rfl
    · cases d <;> rfl
theorem Wb_and' {Q : Bool → Env → Prop} : Wb Φ Mu mp true (.cons e es) ρ Q ↔ We Φ Mu mp e ρ fun r ρ1 => kd (valOf ρ1 r) fun d => kb d fun b => kite b (fun ρ => Wb Φ Mu mp true es ρ Q) (fun ρ => Q false ρ) ρ1 := by
  unfold We Wb
  rw [denB_consW]
  rcases den Φ Mu mp e ρ with _ | ⟨r, ρ1⟩
  · simp [ok2_none, ok2_some]
  · simp only [ok2_some]
    rcases valOf ρ1 r with _ | d
    · simp [ok2_none, ok2_some, kd_none, kd_some]
    · cases d with
      | bool v => cases v <;> simp [kd_none, kd_some, kb, kite, ok2_none, ok2_some]
      | _ => simp [kd_none, kd_some, kb, kite, ok2_none, ok2_some]
theorem Wb_or' {Q : Bool → Env → Prop} : Wb Φ Mu mp false (.cons e es) ρ Q ↔ We Φ Mu mp e ρ fun r ρ1 => kd (valOf ρ1 r) fun d => kb d fun b => kite b (fun ρ => Q true ρ) (fun ρ => Wb Φ Mu mp false es ρ Q) ρ1 := by
  unfold We Wb
  rw [denB_consW]
  rcases den Φ Mu mp e ρ with _ | ⟨r, ρ1⟩
  · simp [ok2_none, ok2_some]
  · simp only [ok2_some]
    rcases valOf ρ1 r with _ | d
    · simp [ok2_none, ok2_some, kd_none, kd_some]
    · cases d with
      | bool v => cases v <;> simp [kd_none, kd_some, kb, kite, ok2_none, ok2_some]
      | _ => simp [kd_none, kd_some, kb, kite, ok2_none, ok2_some]
theorem Wb_last' {w : Bool} {Q : Bool → Env → Prop} : Wb Φ Mu mp w (.cons e .nil) ρ Q ↔ We Φ Mu mp e ρ fun r ρ1 => kd (valOf ρ1 r) fun d => kb d fun b => Q b ρ1 := by
  unfold We Wb
  rw [denB_consW]
  rcases den Φ Mu mp e ρ with _ | ⟨r, ρ1⟩
  · simp [ok2_none, ok2_some]
  · simp only [ok2_some]
    rcases valOf ρ1 r with _ | d
    · simp [ok2_none, ok2_some, kd_none, kd_some]
    · cases d with
      | bool v => cases v <;> cases w <;> simp [kd_some, kb, ok2_none, ok2_some, denB]
      | _ => simp [kd_some, kb, ok2_none, ok2_some]
theorem We_ite' {Q : Res → Env → Prop} : We Φ Mu mp (.ite c a b) ρ Q ↔ We Φ Mu mp c ρ fun r ρ1 => kd (valOf ρ1 r) fun d => kb d fun v => kite v (fun ρ => We Φ Mu mp a ρ Q) (fun ρ => We Φ Mu mp b ρ Q) ρ1 := by
  unfold We
  rw [den]
  rcases den Φ Mu mp c ρ with _ | ⟨r, ρ1⟩
  · simp [ok2_none, ok2_some]
  · simp only [ok2_some]
    rcases valOf ρ1 r with _ | d
    · simp [ok2_none, ok2_some, kd_none, kd_some]
    · cases d with
      | bool v => cases v <;> simp [kd_some, kb, kite]
      | _ => simp [kd_none, kd_some, kb, kite, ok2_none, ok2_some]
theorem We_chain' {o1 o2 : Cm} {Q : Res → Env → Prop} : We Φ Mu mp (.chain o1 o2 a b c) ρ Q ↔ We Φ Mu mp a ρ fun ra ρ1 => We Φ Mu mp b ρ1 fun rb ρ2 => kd (valOf ρ2 ra) fun x => kd (valOf ρ2 rb) fun y => kd (cmp o1 x y) fun v =>
    kite v (fun ρ => We Φ Mu mp c ρ fun rc ρ3 => kd (valOf ρ3 rc) fun z => kd (valOf ρ3 rb) fun y' => kd (cmp o2 y' z) fun u => Q (.sh (.bool u)) ρ3) (fun ρ => Q (.sh (.bool false)) ρ) ρ2 := by
  unfold We
  rw [den]
  rcases den Φ Mu mp a ρ with _ | ⟨ra, ρ1⟩
  · simp [ok2_none, ok2_some]
  simp only [ok2_some]
  rcases den Φ Mu mp b ρ1 with _ | ⟨rb, ρ2⟩
  · simp [ok2_none, ok2_some]
  simp only [ok2_some]
  rcases valOf ρ2 ra with _ | x
  · simp [ok2_none, ok2_some, kd_none, kd_some]
  rcases valOf ρ2 rb with _ | y
  · simp [ok2_none, ok2_some, kd_none, kd_some]
  simp only [kd_some]
  rcases cmp o1 x y with _ | v
  · simp [ok2_none, ok2_some, kd_none, kd_some]
  cases v
  · simp [kd_some, kite, ok2_some]
  simp only [kd_some, kite_t]
  rcases den Φ Mu mp c ρ2 with _ | ⟨rc, ρ3⟩
  · simp [ok2_none, ok2_some]
  simp only [ok2_some]
  rcases valOf ρ3 rc with _ | z
  · simp [ok2_none, ok2_some, kd_none, kd_some]
  rcases valOf ρ3 rb with _ | y'
  · simp [ok2_none, ok2_some, kd_none, kd_some]
  simp only [kd_some]
  rcases cmp o2 y' z with _ | u <;> simp [ok2_none, ok2_some, kd_none, kd_some]
theorem We_slice' {lo hi : Exs} {st : Option Int} {Q : Res → Env → Prop} : We Φ Mu mp (.slice a lo hi st) ρ Q ↔ We Φ Mu mp a ρ fun ra ρ1 => Wes Φ Mu mp lo ρ1 fun rl ρ2 => kd (partI (valsOf ρ2 rl)) fun pl => Wes Φ Mu mp hi ρ2 fun rh ρ3 => kd (partI (valsOf ρ3 rh)) fun ph =>
    kd (valOf ρ3 ra) fun d => kd (sliceD pl ph st d) fun r => Q (mkR r) ρ3 := by
  unfold We Wes
  rw [den]
  rcases den Φ Mu mp a ρ with _ | ⟨ra, ρ1⟩
  · simp [ok2_none, ok2_some]
  simp only [ok2_some]
  rcases dens Φ Mu mp lo ρ1 with _ | ⟨rl, ρ2⟩
  · simp [ok2_none, ok2_some]
  simp only [ok2_some]
  rcases partI (valsOf ρ2 rl) with _ | pl
  · simp [ok2_none, ok2_some, kd_none, kd_some]
  simp only [kd_some]
  rcases dens Φ Mu mp hi ρ2 with _ | ⟨rh, ρ3⟩
  · simp [ok2_none, ok2_some]
  simp only [ok2_some]
  rcases partI (valsOf ρ3 rh) with _ | ph
  · simp [ok2_none, ok2_some, kd_none, kd_some]
  rcases valOf ρ3 ra with _ | d
  · simp [ok2_none, ok2_some, kd_none, kd_some]
  simp only [kd_some]
  rcases sliceD pl ph st d with _ | u <;> simp [ok2_none, ok2_some, kd_none, kd_some]
theorem We_call' {Q : Res → Env → Prop} : We Φ Mu mp (.call f es) ρ Q ↔ Wes Φ Mu mp es ρ fun rs ρ1 => kcall Φ (Mu f) f rs ρ1 Q := by
  unfold We Wes kcall Wc
  rw [den]
  rcases dens Φ Mu mp es ρ with _ | ⟨rs, ρ1⟩
  · simp [ok2_none]
  simp only [ok2_some]
  split
  · rename_i h
    simp only [h, true_and]
    rcases argVals ρ1 (Mu f) rs with _ | vs
    · simp [ok2_none, kd_none]
    simp only [kd_some]
    rcases Φ f vs with _ | ⟨r, fin⟩
    · simp [ok2_none]
    simp only [ok2_some]
    unfold kafter
    by_cases hc : ((Mu f).all (!·) && (!r.1 && isAt r.2)) = true
    · rw [if_pos hc, if_pos hc]
      exact ok2_some
    · rw [if_neg hc, if_neg hc]
      rcases putAll (mutPl (Mu f) rs) fin (frzRs ρ1 (fz (Mu f) rs)) with _ | ρ2 <;> simp [ok2_none, ok2_some, kd_none, kd_some]
  · rename_i h
    exact ⟨fun z => (ok2_none.mp z).elim, fun z => (h z.1).elim⟩
theorem We_meth' {m : Mt} {Q : Res → Env → Prop} : We Φ Mu mp (.meth m i es) ρ Q ↔ kd (slB ρ[i]?) fun _ => Wes Φ Mu mp es ρ fun rs ρ1 => kd (valsOf ρ1 rs) fun ds => (bors rs).contains i = false ∧ kd (valOf ρ1 (.bor i)) fun d => kd (mtS m d ds) fun q => Q (.sh q.1) ((frzRs ρ1 rs).set i (some (true, q.2))) := by
  unfold We Wes slB
  rw [den]
  rcases ρ[i]? with _ | _ | ⟨_ | _, d0⟩
  · simp [ok2_none, ok2_some, kd_none, kd_some]
  · simp [ok2_none, ok2_some, kd_none, kd_some]
  · simp [ok2_none, ok2_some, kd_none, kd_some]
  simp only [kd_some]
  rcases dens Φ Mu mp es ρ with _ | ⟨rs, ρ1⟩
  · simp [ok2_none, ok2_some]
  simp only [ok2_some]
  rcases valsOf ρ1 rs with _ | ds
  · simp [ok2_none, ok2_some, kd_none, kd_some]
  simp only [kd_some]
  cases h : (bors rs).contains i
  · simp only [true_and]
    simp only [Bool.false_eq_true, if_false]
    rcases valOf ρ1 (.bor i) with _ | d
    · simp [ok2_none, ok2_some, kd_none, kd_some]
    simp only [kd_some]
    rcases mtS m d ds with _ | ⟨r, d'⟩ <;> simp [ok2_none, ok2_some, kd_none, kd_some]
  · simp [ok2_none, ok2_some]
theorem We_comp' {own : List Nat} {elt : Ex} {cl : Cl} {Q : Res → Env → Prop} : We Φ Mu mp (.comp own elt cl) ρ Q ↔ ok2 (denF Φ Mu mp cl ρ) fun xs ρ1 => Wk Φ Mu mp own elt cl xs ρ1 Q := by
  unfold We Wk Wl
  rw [den]
  rcases denF Φ Mu mp cl ρ with _ | ⟨xs, ρ1⟩
  · simp [ok2_none, ok2_some]
  simp only [ok2_some]
  show ok2 (match denL Φ Mu mp (kE Φ Mu mp elt) cl xs (wipe ρ1 own) with
    | some (ds, ρ2) => if szOk ds.length then some (Res.own (.list ds), back ρ1 ρ2 own) else none
    | none => none) Q ↔ _
  rcases denL Φ Mu mp (kE Φ Mu mp elt) cl xs (wipe ρ1 own) with _ | ⟨ds, ρ2⟩
  · simp [ok2_none, ok2_some]
  simp only [ok2_some]
  split <;> simp_all [ok2_none, ok2_some]
theorem We_comp1' {own : List Nat} {elt : Ex} {t : Tg} {it : It} {ifs : Exs} {Q : Res → Env → Prop} : We Φ Mu mp (.comp own elt (.last t it ifs)) ρ Q ↔ Wi Φ Mu mp it ρ fun xs ρ1 => Wk Φ Mu mp own elt (.last t it ifs) xs ρ1 Q := by
  rw [We_comp', denF]
  exact Iff.rfl
theorem We_comp2' {own : List Nat} {elt : Ex} {t : Tg} {it : It} {ifs : Exs} {cl : Cl} {Q : Res → Env → Prop} : We Φ Mu mp (.comp own elt (.more t it ifs cl)) ρ Q ↔ Wi Φ Mu mp it ρ fun xs ρ1 => Wk Φ Mu mp own elt (.more t it ifs cl) xs ρ1 Q := by
  rw [We_comp', denF]
  exact Iff.rfl
/-! items -/
theorem Wi_val' {Q : List PyData → Env → Prop} : Wi Φ Mu mp (.val e) ρ Q ↔ We Φ Mu mp e ρ fun r ρ1 => kd (valOf ρ1 r) fun d => kd (asSeq d) fun xs => Q xs (frzR ρ1 r) := by
  unfold Wi We
  rw [denI]
  rcases den Φ Mu mp e ρ with _ | ⟨r, ρ1⟩
  · simp [ok2_none, ok2_some]
  simp only [ok2_some]
  rcases valOf ρ1 r with _ | d
  · simp [ok2_none, ok2_some, kd_none, kd_some]
  simp only [kd_some]
  rcases asSeq d with _ | xs <;> simp [ok2_none, ok2_some, kd_none, kd_some]
theorem Wi_rng' {Q : List PyData → Env → Prop} : Wi Φ Mu mp (.rng es) ρ Q ↔ Wes Φ Mu mp es ρ fun rs ρ1 => kd (valsOf ρ1 rs) fun ds => kd (MP.rng ds) fun xs => Q xs ρ1 := by
  unfold Wi Wes
  rw [denI]
  rcases dens Φ Mu mp es ρ with _ | ⟨r, ρ1⟩
  · simp [ok2_none, ok2_some]
  simp only [ok2_some]
  rcases valsOf ρ1 r with _ | d
  · simp [ok2_none, ok2_some, kd_none, kd_some]
  simp only [kd_some]
  rcases MP.rng d with _ | xs <;> simp [ok2_none, ok2_some, kd_none, kd_some]
theorem Wi_enm' {Q : List PyData → Env → Prop} : Wi Φ Mu mp (.enm e) ρ Q ↔ We Φ Mu mp e ρ fun r ρ1 => kd (valOf ρ1 r) fun d => kd (asSeq d) fun xs => Q (enumL xs) (frzR ρ1 r) := by
  unfold Wi We
  rw [denI]
  rcases den Φ Mu mp e ρ with _ | ⟨r, ρ1⟩
  · simp [ok2_none, ok2_some]
  simp only [ok2_some]
  rcases valOf ρ1 r with _ | d
  · simp [ok2_none, ok2_some, kd_none, kd_some]
  simp only [kd_some]
  rcases asSeq d with _ | xs <;> simp [ok2_none, ok2_some, kd_none, kd_some]
theorem Wi_zip' {st : Bool} {Q : List PyData → Env → Prop} : Wi Φ Mu mp (.zip st es) ρ Q ↔ Wes Φ Mu mp es ρ fun rs ρ1 => kd (valsOf ρ1 rs) fun ds => kd (seqs ds) fun xs => kd (zipL st xs) fun ts => Q (ts.map .tuple) (frzRs ρ1 rs) := by
  unfold Wi Wes
  rw [denI]
  rcases dens Φ Mu mp es ρ with _ | ⟨r, ρ1⟩
  · simp [ok2_none, ok2_some]
  simp only [ok2_some]
  rcases valsOf ρ1 r with _ | d
  · simp [ok2_none, ok2_some, kd_none, kd_some]
  simp only [kd_some]
  rcases seqs d with _ | xs
  · simp [ok2_none, ok2_some, kd_none, kd_some]
  simp only [kd_some]
  rcases zipL st xs with _ | ts <;> simp [ok2_none, ok2_some, kd_none, kd_some]
/-! statements -/
theorem Wss_nil' {Q : Fl → Env → Prop} : Wss Φ Mu mp .nil ρ Q ↔ Q .nx ρ := by
  unfold Wss
  rw [execs, ok2_some]
theorem Wss_cons' {s : St} {r : Sts} {Q : Fl → Env → Prop} : Wss Φ Mu mp (.cons s r) ρ Q ↔ Ws Φ Mu mp s ρ fun fl ρ1 => knx fl ρ1 (fun ρ => Wss Φ Mu mp r ρ Q) Q := by
  unfold Wss Ws
  rw [execs]
  rcases exec Φ Mu mp s ρ with _ | ⟨_ | _ | _ | v, ρ1⟩ <;> simp [ok2_none, ok2_some, knx]
theorem Ws_exp' {Q : Fl → Env → Prop} : Ws Φ Mu mp (.exp e) ρ Q ↔ We Φ Mu mp e ρ fun _ ρ1 => Q .nx ρ1 := by
  unfold We Ws
  rw [exec]
  rcases den Φ Mu mp e ρ with _ | ⟨r, ρ1⟩ <;> simp [ok2_none, ok2_some]
theorem Ws_asg' {t : Tg} {Q : Fl → Env → Prop} : Ws Φ Mu mp (.asg t e) ρ Q ↔ We Φ Mu mp e ρ fun r ρ1 => kd (asgR mp t r ρ1) fun ρ2 => Q .nx ρ2 := by
  unfold We Ws
  rw [exec]
  rcases den Φ Mu mp e ρ with _ | ⟨r, ρ1⟩
  · simp [ok2_none, ok2_some]
  simp only [ok2_some]
  rcases asgR mp t r ρ1 with _ | ρ2 <;> simp [ok2_none, ok2_some, kd_none, kd_some]
theorem Ws_par' {ts : List Pt} {Q : Fl → Env → Prop} : Ws Φ Mu mp (.par ts es) ρ Q ↔ Wes Φ Mu mp es ρ fun rs ρ1 => kd (fxR ρ1 rs) fun rs' => kd (asgPs Φ Mu mp ts rs' (frzRs ρ1 (fz (notB rs) rs))) fun ρ2 => Q .nx ρ2 := by
  unfold Wes Ws
  rw [exec]
  rcases dens Φ Mu mp es ρ with _ | ⟨r, ρ1⟩
  · simp [ok2_none, ok2_some]
  simp only [ok2_some]
  rcases fxR ρ1 r with _ | rs'
  · simp [ok2_none, ok2_some, kd_none, kd_some]
  simp only [kd_some]
  rcases asgPs Φ Mu mp ts rs' (frzRs ρ1 (fz (notB r) r)) with _ | ρ2 <;> simp [ok2_none, ok2_some, kd_none, kd_some]
theorem asgPs_nil : asgPs Φ Mu mp [] [] ρ = some ρ := by rw [asgPs]
theorem asgPs_var {ts : List Pt} {r : Res} {rs : List Res} : asgPs Φ Mu mp (.tg (.var i) :: ts) (r :: rs) ρ = (asgV mp i r ρ).bind (asgPs Φ Mu mp ts rs) := by
  rw [asgPs]
  cases asgV mp i r ρ <;> rfl
theorem asgPs_tup {t : Tgs} {ts : List Pt} {d : PyData} {rs : List Res} : asgPs Φ Mu mp (.tg (.tup t) :: ts) (.sh d :: rs) ρ = (asgT mp (.tup t) d ρ).bind (asgPs Φ Mu mp ts rs) := by
  rw [asgPs]
  cases asgT mp (.tup t) d ρ <;> rfl
def kret (mp : List Nat) (r : Res) (ρ : Env) (Q : Fl → Env → Prop) : Prop := match r with
  | .sh d => Q (.rt (false, d)) ρ
  | .own d => Q (.rt (true, d)) ρ
  | .bor i => mp.contains i = false ∧ kd (valOf ρ (.bor i)) fun d => Q (.rt (true, d)) ρ
theorem kret_sh {d : PyData} {Q : Fl → Env → Prop} : kret mp (.sh d) ρ Q ↔ Q (.rt (false, d)) ρ := Iff.rfl
theorem kret_own {d : PyData} {Q : Fl → Env → Prop} : kret mp (.own d) ρ Q ↔ Q (.rt (true, d)) ρ := Iff.rfl
theorem kret_bor {Q : Fl → Env → Prop} : kret mp (.bor i) ρ Q ↔ mp.contains i = false ∧ kd (valOf ρ (.bor i)) fun d => Q (.rt (true, d)) ρ := Iff.rfl
theorem Ws_ret' {Q : Fl → Env → Prop} : Ws Φ Mu mp (.ret e) ρ Q ↔ We Φ Mu mp e ρ fun r ρ1 => kret mp r ρ1 Q := by
  unfold We Ws
  rw [exec]
  rcases den Φ Mu mp e ρ with _ | ⟨r, ρ1⟩
  · simp [ok2_none, ok2_some]
  simp only [ok2_some]
  cases r with
  | sh d => simp [ok2_none, ok2_some, kret]
  | own d => simp [ok2_none, ok2_some, kret]
  | bor i =>
    simp only [kret]
    cases h : mp.contains i
    · simp only [true_and, Bool.false_eq_true, if_false]
      rcases valOf ρ1 (.bor i) with _ | d <;> simp [ok2_none, ok2_some, kd_none, kd_some]
    · simp [ok2_none, ok2_some]
theorem Ws_ret0' {Q : Fl → Env → Prop} : Ws Φ Mu mp .ret0 ρ Q ↔ Q (.rt (false, .none)) ρ := by
  unfold Ws
  rw [exec, ok2_some]
theorem Ws_pass' {Q : Fl → Env → Prop} : Ws Φ Mu mp .pass ρ Q ↔ Q .nx ρ := by
  unfold Ws
  rw [exec, ok2_some]
theorem Ws_brk' {Q : Fl → Env → Prop} : Ws Φ Mu mp .brk ρ Q ↔ Q .br ρ := by
  unfold Ws
  rw [exec, ok2_some]
theorem Ws_cont' {Q : Fl → Env → Prop} : Ws Φ Mu mp .cont ρ Q ↔ Q .ct ρ := by
  unfold Ws
  rw [exec, ok2_some]
theorem Ws_ite' {p q : Sts} {Q : Fl → Env → Prop} : Ws Φ Mu mp (.ite c p q) ρ Q ↔ We Φ Mu mp c ρ fun r ρ1 => kd (valOf ρ1 r) fun d => kb d fun v => kite v (fun ρ => Wss Φ Mu mp p ρ Q) (fun ρ => Wss Φ Mu mp q ρ Q) ρ1 := by
  unfold We Ws Wss
  rw [exec]
  rcases den Φ Mu mp c ρ with _ | ⟨r, ρ1⟩
  · simp [ok2_none, ok2_some]
  · simp only [ok2_some]
    rcases valOf ρ1 r with _ | d
    · simp [ok2_none, ok2_some, kd_none, kd_some]
    · cases d with
      | bool v => cases v <;> simp [kd_some, kb, kite]
      | _ => simp [kd_none, kd_some, kb, kite, ok2_none, ok2_some]
theorem Ws_for' {t : Tg} {it : It} {p : Sts} {Q : Fl → Env → Prop} : Ws Φ Mu mp (.for t it p) ρ Q ↔ Wi Φ Mu mp it ρ fun xs ρ1 => Wf Φ Mu mp t p xs ρ1 Q := by
  unfold Ws Wi Wf
  rw [exec]
  rcases denI Φ Mu mp it ρ with _ | ⟨r, ρ1⟩ <;> simp [ok2_none, ok2_some]
theorem Ws_while' {p : Sts} {Q : Fl → Env → Prop} : Ws Φ Mu mp (.while c p) ρ Q ↔ Ww Φ Mu mp c p ρ Q := by
  unfold Ws Ww
  rw [exec]
/-- a list's place takes -/
def kset (i : Nat) (rs : List Res) (ρ : Env) (Q : Fl → Env → Prop) : Prop := match rs with
  | [re, .bor _, rk] => kd (valOf ρ re) fun d => kd (valOf ρ rk) fun k => kd (valOf (frzR ρ re) (.bor i)) fun dl => ∃ j xs, k = .int j ∧ dl = .list xs ∧ kd (L2.ixN xs.length j) fun n => Q .nx ((frzR ρ re).set i (some (true, .list (xs.set n d))))
  | _ => False
theorem kset_eq {re rk : Res} {Q : Fl → Env → Prop} : kset i [re, .bor j, rk] ρ Q ↔ kd (valOf ρ re) fun d => kd (valOf ρ rk) fun k => kd (valOf (frzR ρ re) (.bor i)) fun dl => ∃ j xs, k = .int j ∧ dl = .list xs ∧ kd (L2.ixN xs.length j) fun n => Q .nx ((frzR ρ re).set i (some (true, .list (xs.set n d)))) := Iff.rfl
theorem kset_v {jv : Int} {xs : List PyData} {P : Int → List PyData → Prop} : (∃ j ys, PyData.int jv = .int j ∧ PyData.list xs = .list ys ∧ P j ys) ↔ P jv xs := by simp
theorem Ws_set' {k : Ex} {Q : Fl → Env → Prop} : Ws Φ Mu mp (.set i k e) ρ Q ↔ Wes Φ Mu mp (.cons e (.cons (.var i) (.cons k .nil))) ρ fun rs ρ1 => kset i rs ρ1 Q := by
  unfold Ws Wes
  rw [exec]
  rcases dens Φ Mu mp (.cons e (.cons (.var i) (.cons k .nil))) ρ with _ | ⟨rs, ρ1⟩
  · simp [ok2_none, ok2_some]
  have hR : ok2 (some (rs, ρ1)) (fun rs ρ1 => kset i rs ρ1 Q) ↔ kset i rs ρ1 Q := ok2_some
  rw [hR]
  by_cases hh : ∃ re j rk, rs = [re, .bor j, rk]
  · obtain ⟨re, j, rk, rfl⟩ := hh
    rw [kset_eq]
    show ok2 (match valOf ρ1 re, valOf ρ1 rk, valOf (frzR ρ1 re) (.bor i) with
      | some d, some (.int j), some (.list xs) => (match L2.ixN xs.length j with
        | some n => some (Fl.nx, (frzR ρ1 re).set i (some (true, .list (xs.set n d))))
        | none => none)
      | _, _, _ => none) Q ↔ _
    rcases valOf ρ1 re with _ | d
    · simp [ok2_none, kd_none]
    simp only [kd_some]
    rcases valOf ρ1 rk with _ | kk
    · simp [ok2_none, kd_none]
    simp only [kd_some]
    rcases valOf (frzR ρ1 re) (.bor i) with _ | dl
    · cases kk <;> simp [ok2_none, kd_none]
    simp only [kd_some]
    cases kk with
    | int j =>
      cases dl with
      | list xs =>
        rw [kset_v]
        show ok2 (match L2.ixN xs.length j with
          | some n => some (Fl.nx, (frzR ρ1 re).set i (some (true, .list (xs.set n d))))
          | none => none) Q ↔ _
        rcases L2.ixN xs.length j with _ | n <;> simp [ok2_none, ok2_some, kd_none, kd_some]
      | _ => simp [ok2_none]
    | _ => simp [ok2_none]
  · have h1 : kset i rs ρ1 Q ↔ False := by
      unfold kset
      split
      · exact (hh ⟨_, _, _, rfl⟩).elim
      · rfl
    rw [h1]
    split
    · rename_i q
      simp only [Option.some.injEq, Prod.mk.injEq] at q
      exact (hh ⟨_, _, _, q.1⟩).elim
    · simp [ok2_none]
theorem Ws_aug' {o : Bn} {Q : Fl → Env → Prop} : Ws Φ Mu mp (.aug i o e) ρ Q ↔ We Φ Mu mp (.var i) ρ fun r0 ρ1 => ∃ a, r0 = .sh a ∧ We Φ Mu mp e ρ1 fun r ρ2 => kd (valOf ρ2 r) fun b => kd (opAug o a b) fun d => kd (asgV mp i (.sh d) ρ2) fun ρ3 => Q .nx ρ3 := by
  unfold Ws We
  rw [exec]
  rcases den Φ Mu mp (.var i) ρ with _ | ⟨r0, ρ1⟩
  · simp [ok2_none, ok2_some]
  simp only [ok2_some]
  cases r0 with
  | sh a =>
    simp only [Res.sh.injEq, exists_eq_left']
    rcases den Φ Mu mp e ρ1 with _ | ⟨r, ρ2⟩
    · simp [ok2_none, ok2_some]
    simp only [ok2_some]
    rcases valOf ρ2 r with _ | b
    · simp [ok2_none, ok2_some, kd_none, kd_some]
    simp only [kd_some]
    rcases opAug o a b with _ | d
    · simp [ok2_none, ok2_some, kd_none, kd_some]
    simp only [kd_some]
    rcases asgV mp i (.sh d) ρ2 with _ | ρ3 <;> simp [ok2_none, ok2_some, kd_none, kd_some]
  | _ => simp [ok2_none, ok2_some]
/-- a list's place takes a sum -/
def kaset (Φ : Ph) (Mu : Nat → List Bool) (mp : List Nat) (i : Nat) (o : Bn) (e : Ex) (rs : List Res) (ρ : Env) (Q : Fl → Env → Prop) : Prop := match rs with
  | [.bor _, rk] => kd (valOf ρ rk) fun k => kd (valOf ρ (.bor i)) fun dl => ∃ j xs, k = .int j ∧ dl = .list xs ∧ kd (L2.ixN xs.length j) fun n => kd xs[n]? fun a => We Φ Mu mp e ρ fun r ρ2 => kd (valOf ρ2 r) fun b => kd (opAug o a b) fun d =>
      kd (valOf ρ2 (.bor i)) fun dl2 => ∃ ys, dl2 = .list ys ∧ kd (L2.ixN ys.length j) fun m => Q .nx (ρ2.set i (some (true, .list (ys.set m d))))
  | _ => False
theorem kaset_eq {rk : Res} {o : Bn} {Q : Fl → Env → Prop} : kaset Φ Mu mp i o e [.bor j, rk] ρ Q ↔ kd (valOf ρ rk) fun k => kd (valOf ρ (.bor i)) fun dl => ∃ j xs, k = .int j ∧ dl = .list xs ∧ kd (L2.ixN xs.length j) fun n => kd xs[n]? fun a => We Φ Mu mp e ρ fun r ρ2 => kd (valOf ρ2 r) fun b => kd (opAug o a b) fun d =>
      kd (valOf ρ2 (.bor i)) fun dl2 => ∃ ys, dl2 = .list ys ∧ kd (L2.ixN ys.length j) fun m => Q .nx (ρ2.set i (some (true, .list (ys.set m d)))) := Iff.rfl
theorem kaset_v {xs : List PyData} {P : List PyData → Prop} : (∃ ys, PyData.list xs = .list ys ∧ P ys) ↔ P xs := by simp
theorem Ws_aset' {k : Ex} {o : Bn} {Q : Fl → Env → Prop} : Ws Φ Mu mp (.aset i k o e) ρ Q ↔ Wes Φ Mu mp (.cons (.var i) (.cons k .nil)) ρ fun rs ρ1 => kaset Φ Mu mp i o e rs ρ1 Q := by
  unfold Ws Wes
  rw [exec]
  rcases dens Φ Mu mp (.cons (.var i) (.cons k .nil)) ρ with _ | ⟨rs, ρ1⟩
  · simp [ok2_none, ok2_some]
  have hR : ok2 (some (rs, ρ1)) (fun rs ρ1 => kaset Φ Mu mp i o e rs ρ1 Q) ↔ kaset Φ Mu mp i o e rs ρ1 Q := ok2_some
  rw [hR]
  by_cases hh : ∃ j rk, rs = [.bor j, rk]
  · obtain ⟨j, rk, rfl⟩ := hh
    rw [kaset_eq]
    simp only []
    rcases valOf ρ1 rk with _ | kk
    · simp [ok2_none, kd_none]
    simp only [kd_some]
    rcases valOf ρ1 (.bor i) with _ | dl
    · cases kk <;> simp [ok2_none, kd_none]
    simp only [kd_some]
    cases kk with
    | int j =>
      cases dl with
      | list xs =>
        rw [kset_v]
        simp only []
        rcases L2.ixN xs.length j with _ | n
        · simp [ok2_none, kd_none]
        simp only [kd_some]
        rcases xs[n]? with _ | a
        · simp [ok2_none, kd_none]
        simp only [kd_some]
        unfold We
        rcases den Φ Mu mp e ρ1 with _ | ⟨r, ρ2⟩
        · simp [ok2_none]
        simp only [ok2_some]
        rcases valOf ρ2 r with _ | b
        · simp [ok2_none, kd_none]
        simp only [kd_some]
        rcases opAug o a b with _ | d
        · simp [ok2_none, kd_none]
        simp only [kd_some]
        rcases valOf ρ2 (.bor i) with _ | dl2
        · simp [ok2_none, kd_none]
        simp only [kd_some]
        cases dl2 with
        | list ys =>
          rw [kaset_v]
          simp only []
          rcases L2.ixN ys.length j with _ | m <;> simp [ok2_none, ok2_some, kd_none, kd_some]
        | _ => simp [ok2_none]
      | _ => simp [ok2_none]
    | _ => simp [ok2_none]
  · have h1 : kaset Φ Mu mp i o e rs ρ1 Q ↔ False := by
      unfold kaset
      split
      · exact (hh ⟨_, _, rfl⟩).elim
      · rfl
    rw [h1]
    split
    · rename_i q
      simp only [Option.some.injEq, Prod.mk.injEq] at q
      exact (hh ⟨_, _, q.1⟩).elim
    · simp [ok2_none]
/-- a parallel store into a list's place -/
theorem kd_sub' {k : Ex} {ts : List Pt} {d : PyData} {rs : List Res} {K : Env → Prop} : kd (asgPs Φ Mu mp (.sub i k :: ts) (.sh d :: rs) ρ) K ↔ kd (slB ρ[i]?) fun _ => We Φ Mu mp k ρ fun rk ρ1 => kd (valOf ρ1 rk) fun kk => kd (valOf ρ1 (.bor i)) fun dl => ∃ j xs, kk = .int j ∧ dl = .list xs ∧ kd (L2.ixN xs.length j) fun n =>
    kd (asgPs Φ Mu mp ts rs (ρ1.set i (some (true, .list (xs.set n d))))) K := by
  unfold We
  rw [asgPs]
  rcases ρ[i]? with _ | _ | ⟨_ | _, d0⟩
  · simp [slB, kd_none]
  · simp [slB, kd_none]
  · simp [slB, kd_none]
  simp only [slB, kd_some]
  rcases den Φ Mu mp k ρ with _ | ⟨rk, ρ1⟩
  · simp [ok2_none, kd_none]
  simp only [ok2_some]
  rcases valOf ρ1 rk with _ | kk
  · simp [kd_none]
  simp only [kd_some]
  rcases valOf ρ1 (.bor i) with _ | dl
  · cases kk <;> simp [kd_none]
  simp only [kd_some]
  cases kk with
  | int j =>
    cases dl with
    | list xs =>
      rw [kset_v]
      simp only []
      rcases L2.ixN xs.length j with _ | n <;> simp [kd_none, kd_some]
    | _ => simp [kd_none]
  | _ => simp [kd_none]
theorem kd_subO' {k : Ex} {ts : List Pt} {d : PyData} {rs : List Res} {K : Env → Prop} : kd (asgPs Φ Mu mp (.sub i k :: ts) (.own d :: rs) ρ) K ↔ kd (slB ρ[i]?) fun _ => We Φ Mu mp k ρ fun rk ρ1 => kd (valOf ρ1 rk) fun kk => kd (valOf ρ1 (.bor i)) fun dl => ∃ j xs, kk = .int j ∧ dl = .list xs ∧ kd (L2.ixN xs.length j) fun n =>
    kd (asgPs Φ Mu mp ts rs (ρ1.set i (some (true, .list (xs.set n d))))) K := by
  rw [← kd_sub' (d := d)]
  rw [asgPs, asgPs]
/-- a loop over a list that stays -/
def Wfo (Φ : Ph) (Mu : Nat → List Bool) (mp : List Nat) (t : Tg) (b : Sts) (i : Nat) (d : PyData) (ys : List PyData) (ρ : Env) (Q : Fl → Env → Prop) : Prop := ok2 (loopO (fun ρ => ρ[i]? = some (some (true, d))) (tgB mp t fun ρ => execs Φ Mu mp b ρ) ys ρ) Q
theorem Ws_forO' {t : Tg} {enm : Bool} {p : Sts} {Q : Fl → Env → Prop} : Ws Φ Mu mp (.forO t enm i p) ρ Q ↔ kd (slB ρ[i]?) fun d => ∃ xs, d = .list xs ∧ Wfo Φ Mu (i :: mp) t p i (.list xs) (if enm = true then enumL xs else xs) ρ Q := by
  unfold Ws Wfo slB
  rw [exec]
  rcases ρ[i]? with _ | _ | ⟨_ | _, d⟩
  · simp [ok2_none, kd_none]
  · simp [ok2_none, kd_none]
  · simp [ok2_none, kd_none]
  simp only [kd_some]
  cases d with
  | list xs => rw [kaset_v]
  | _ => simp [ok2_none]
theorem kaug {a : PyData} {P : PyData → Prop} : (∃ b, Res.sh a = .sh b ∧ P b) ↔ P a := by simp
theorem opAug_add {i j : Int} : opAug .add (.int i) (.int j) = some (.int (i + j)) := rfl
theorem kd_augT {xs ys : List PyData} {k : PyData → Prop} : kd (opAug .add (.tuple xs) (.tuple ys)) k ↔ szOk (xs.length + ys.length) = true ∧ k (.tuple (xs ++ ys)) := by
  show kd (if szOk (xs.length + ys.length) then some (.tuple (xs ++ ys)) else none) k ↔ _
  by_cases h : szOk (xs.length + ys.length) = true <;> simp [h, kd]
theorem opAug_sub {i j : Int} : opAug .sub (.int i) (.int j) = some (.int (i - j)) := rfl
end
end MP

/-! W3: the rules, for environments that are written out. -/
namespace MP
open PySem
section
variable {Φ : Ph} {Mu : Nat → List Bool} {mp : List Nat} {x : Option (Bool × PyData)} {l : Env} {i j f : Nat} {e a b c : Ex} {es : Exs}
theorem We_var {Q : Res → Env → Prop} : We Φ Mu mp (.var i) (x :: l) Q ↔ kd (slR i (x :: l)[i]?) fun r => Q r (x :: l) := We_var'
theorem We_cst {z : Cs} {Q : Res → Env → Prop} : We Φ Mu mp (.cst z) (x :: l) Q ↔ Q (.sh (csD z)) (x :: l) := We_cst'
theorem We_glb {z : String} {d : PyData} {Q : Res → Env → Prop} : We Φ Mu mp (.glb z d) (x :: l) Q ↔ Q (.sh d) (x :: l) := We_glb'
theorem Wes_nil {Q : List Res → Env → Prop} : Wes Φ Mu mp .nil (x :: l) Q ↔ Q [] (x :: l) := Wes_nil'
theorem Wes_cons {Q : List Res → Env → Prop} : Wes Φ Mu mp (.cons e es) (x :: l) Q ↔ We Φ Mu mp e (x :: l) fun r ρ1 => Wes Φ Mu mp es ρ1 fun rs ρ2 => Q (fixB ρ1 ρ2 r :: rs) ρ2 := Wes_cons'
theorem We_op {o : Op} {Q : Res → Env → Prop} : We Φ Mu mp (.op o es) (x :: l) Q ↔ Wes Φ Mu mp es (x :: l) fun rs ρ1 => kd (valsOf ρ1 rs) fun ds => Wo o ds fun r => Q (mkR r) (stE o ρ1 rs) := We_op'
theorem We_and {Q : Res → Env → Prop} : We Φ Mu mp (.and es) (x :: l) Q ↔ Wb Φ Mu mp true es (x :: l) fun b ρ1 => Q (.sh (.bool b)) ρ1 := We_and'
theorem We_or {Q : Res → Env → Prop} : We Φ Mu mp (.or es) (x :: l) Q ↔ Wb Φ Mu mp false es (x :: l) fun b ρ1 => Q (.sh (.bool b)) ρ1 := We_or'
theorem Wb_nil {w : Bool} {Q : Bool → Env → Prop} : Wb Φ Mu mp w .nil (x :: l) Q ↔ Q w (x :: l) := Wb_nil'
theorem Wb_and {Q : Bool → Env → Prop} : Wb Φ Mu mp true (.cons e es) (x :: l) Q ↔ We Φ Mu mp e (x :: l) fun r ρ1 => kd (valOf ρ1 r) fun d => kb d fun b => kite b (fun ρ => Wb Φ Mu mp true es ρ Q) (fun ρ => Q false ρ) ρ1 := Wb_and'
theorem Wb_or {Q : Bool → Env → Prop} : Wb Φ Mu mp false (.cons e es) (x :: l) Q ↔ We Φ Mu mp e (x :: l) fun r ρ1 => kd (valOf ρ1 r) fun d => kb d fun b => kite b (fun ρ => Q true ρ) (fun ρ => Wb Φ Mu mp false es ρ Q) ρ1 := Wb_or'
theorem Wb_last {w : Bool} {Q : Bool → Env → Prop} : Wb Φ Mu mp w (.cons e .nil) (x :: l) Q ↔ We Φ Mu mp e (x :: l) fun r ρ1 => kd (valOf ρ1 r) fun d => kb d fun b => Q b ρ1 := Wb_last'
theorem We_ite {Q : Res → Env → Prop} : We Φ Mu mp (.ite c a b) (x :: l) Q ↔ We Φ Mu mp c (x :: l) fun r ρ1 => kd (valOf ρ1 r) fun d => kb d fun v => kite v (fun ρ => We Φ Mu mp a ρ Q) (fun ρ => We Φ Mu mp b ρ Q) ρ1 := We_ite'
theorem We_chain {o1 o2 : Cm} {Q : Res → Env → Prop} : We Φ Mu mp (.chain o1 o2 a b c) (x :: l) Q ↔ We Φ Mu mp a (x :: l) fun ra ρ1 => We Φ Mu mp b ρ1 fun rb ρ2 => kd (valOf ρ2 ra) fun x => kd (valOf ρ2 rb) fun y => kd (cmp o1 x y) fun v =>
    kite v (fun ρ => We Φ Mu mp c ρ fun rc ρ3 => kd (valOf ρ3 rc) fun z => kd (valOf ρ3 rb) fun y' => kd (cmp o2 y' z) fun u => Q (.sh (.bool u)) ρ3) (fun ρ => Q (.sh (.bool false)) ρ) ρ2 := We_chain'
theorem We_slice {lo hi : Exs} {st : Option Int} {Q : Res → Env → Prop} : We Φ Mu mp (.slice a lo hi st) (x :: l) Q ↔ We Φ Mu mp a (x :: l) fun ra ρ1 => Wes Φ Mu mp lo ρ1 fun rl ρ2 => kd (partI (valsOf ρ2 rl)) fun pl => Wes Φ Mu mp hi ρ2 fun rh ρ3 => kd (partI (valsOf ρ3 rh)) fun ph =>
    kd (valOf ρ3 ra) fun d => kd (sliceD pl ph st d) fun r => Q (mkR r) ρ3 := We_slice'
theorem We_call {Q : Res → Env → Prop} : We Φ Mu mp (.call f es) (x :: l) Q ↔ Wes Φ Mu mp es (x :: l) fun rs ρ1 => kcall Φ (Mu f) f rs ρ1 Q := We_call'
theorem We_meth {m : Mt} {Q : Res → Env → Prop} : We Φ Mu mp (.meth m i es) (x :: l) Q ↔ kd (slB (x :: l)[i]?) fun _ => Wes Φ Mu mp es (x :: l) fun rs ρ1 => kd (valsOf ρ1 rs) fun ds => (bors rs).contains i = false ∧ kd (valOf ρ1 (.bor i)) fun d => kd (mtS m d ds) fun q => Q (.sh q.1) ((frzRs ρ1 rs).set i (some (true, q.2))) := We_meth'
theorem We_comp1 {own : List Nat} {elt : Ex} {t : Tg} {it : It} {ifs : Exs} {Q : Res → Env → Prop} : We Φ Mu mp (.comp own elt (.last t it ifs)) (x :: l) Q ↔ Wi Φ Mu mp it (x :: l) fun xs ρ1 => Wk Φ Mu mp own elt (.last t it ifs) xs ρ1 Q := We_comp1'
theorem We_comp2 {own : List Nat} {elt : Ex} {t : Tg} {it : It} {ifs : Exs} {cl : Cl} {Q : Res → Env → Prop} : We Φ Mu mp (.comp own elt (.more t it ifs cl)) (x :: l) Q ↔ Wi Φ Mu mp it (x :: l) fun xs ρ1 => Wk Φ Mu mp own elt (.more t it ifs cl) xs ρ1 Q := We_comp2'
theorem Wi_val {Q : List PyData → Env → Prop} : Wi Φ Mu mp (.val e) (x :: l) Q ↔ We Φ Mu mp e (x :: l) fun r ρ1 => kd (valOf ρ1 r) fun d => kd (asSeq d) fun xs => Q xs (frzR ρ1 r) := Wi_val'
theorem Wi_rng {Q : List PyData → Env → Prop} : Wi Φ Mu mp (.rng es) (x :: l) Q ↔ Wes Φ Mu mp es (x :: l) fun rs ρ1 => kd (valsOf ρ1 rs) fun ds => kd (MP.rng ds) fun xs => Q xs ρ1 := Wi_rng'
theorem Wi_enm {Q : List PyData → Env → Prop} : Wi Φ Mu mp (.enm e) (x :: l) Q ↔ We Φ Mu mp e (x :: l) fun r ρ1 => kd (valOf ρ1 r) fun d => kd (asSeq d) fun xs => Q (enumL xs) (frzR ρ1 r) := Wi_enm'
theorem Wi_zip {st : Bool} {Q : List PyData → Env → Prop} : Wi Φ Mu mp (.zip st es) (x :: l) Q ↔ Wes Φ Mu mp es (x :: l) fun rs ρ1 => kd (valsOf ρ1 rs) fun ds => kd (seqs ds) fun xs => kd (zipL st xs) fun ts => Q (ts.map .tuple) (frzRs ρ1 rs) := Wi_zip'
theorem Wss_nil {Q : Fl → Env → Prop} : Wss Φ Mu mp .nil (x :: l) Q ↔ Q .nx (x :: l) := Wss_nil'
theorem Wss_cons {s : St} {r : Sts} {Q : Fl → Env → Prop} : Wss Φ Mu mp (.cons s r) (x :: l) Q ↔ Ws Φ Mu mp s (x :: l) fun fl ρ1 => knx fl ρ1 (fun ρ => Wss Φ Mu mp r ρ Q) Q := Wss_cons'
theorem Ws_exp {Q : Fl → Env → Prop} : Ws Φ Mu mp (.exp e) (x :: l) Q ↔ We Φ Mu mp e (x :: l) fun _ ρ1 => Q .nx ρ1 := Ws_exp'
theorem Ws_asg {t : Tg} {Q : Fl → Env → Prop} : Ws Φ Mu mp (.asg t e) (x :: l) Q ↔ We Φ Mu mp e (x :: l) fun r ρ1 => kd (asgR mp t r ρ1) fun ρ2 => Q .nx ρ2 := Ws_asg'
theorem Ws_par {ts : List Pt} {Q : Fl → Env → Prop} : Ws Φ Mu mp (.par ts es) (x :: l) Q ↔ Wes Φ Mu mp es (x :: l) fun rs ρ1 => kd (fxR ρ1 rs) fun rs' => kd (asgPs Φ Mu mp ts rs' (frzRs ρ1 (fz (notB rs) rs))) fun ρ2 => Q .nx ρ2 := Ws_par'
theorem Ws_ret {Q : Fl → Env → Prop} : Ws Φ Mu mp (.ret e) (x :: l) Q ↔ We Φ Mu mp e (x :: l) fun r ρ1 => kret mp r ρ1 Q := Ws_ret'
theorem Ws_ret0 {Q : Fl → Env → Prop} : Ws Φ Mu mp .ret0 (x :: l) Q ↔ Q (.rt (false, .none)) (x :: l) := Ws_ret0'
theorem Ws_pass {Q : Fl → Env → Prop} : Ws Φ Mu mp .pass (x :: l) Q ↔ Q .nx (x :: l) := Ws_pass'
theorem Ws_brk {Q : Fl → Env → Prop} : Ws Φ Mu mp .brk (x :: l) Q ↔ Q .br (x :: l) := Ws_brk'
theorem Ws_cont {Q : Fl → Env → Prop} : Ws Φ Mu mp .cont (x :: l) Q ↔ Q .ct (x :: l) := Ws_cont'
theorem Ws_ite {p q : Sts} {Q : Fl → Env → Prop} : Ws Φ Mu mp (.ite c p q) (x :: l) Q ↔ We Φ Mu mp c (x :: l) fun r ρ1 => kd (valOf ρ1 r) fun d => kb d fun v => kite v (fun ρ => Wss Φ Mu mp p ρ Q) (fun ρ => Wss Φ Mu mp q ρ Q) ρ1 := Ws_ite'
theorem Ws_for {t : Tg} {it : It} {p : Sts} {Q : Fl → Env → Prop} : Ws Φ Mu mp (.for t it p) (x :: l) Q ↔ Wi Φ Mu mp it (x :: l) fun xs ρ1 => Wf Φ Mu mp t p xs ρ1 Q := Ws_for'
theorem Ws_while {p : Sts} {Q : Fl → Env → Prop} : Ws Φ Mu mp (.while c p) (x :: l) Q ↔ Ww Φ Mu mp c p (x :: l) Q := Ws_while'
theorem Ws_set {k : Ex} {Q : Fl → Env → Prop} : Ws Φ Mu mp (.set i k e) (x :: l) Q ↔ Wes Φ Mu mp (.cons e (.cons (.var i) (.cons k .nil))) (x :: l) fun rs ρ1 => kset i rs ρ1 Q := Ws_set'
theorem Ws_aug {o : Bn} {Q : Fl → Env → Prop} : Ws Φ Mu mp (.aug i o e) (x :: l) Q ↔ We Φ Mu mp (.var i) (x :: l) fun r0 ρ1 => ∃ a, r0 = .sh a ∧ We Φ Mu mp e ρ1 fun r ρ2 => kd (valOf ρ2 r) fun b => kd (opAug o a b) fun d => kd (asgV mp i (.sh d) ρ2) fun ρ3 => Q .nx ρ3 := Ws_aug'
theorem Ws_aset {k : Ex} {o : Bn} {Q : Fl → Env → Prop} : Ws Φ Mu mp (.aset i k o e) (x :: l) Q ↔ Wes Φ Mu mp (.cons (.var i) (.cons k .nil)) (x :: l) fun rs ρ1 => kaset Φ Mu mp i o e rs ρ1 Q := Ws_aset'
theorem Ws_forO {t : Tg} {enm : Bool} {p : Sts} {Q : Fl → Env → Prop} : Ws Φ Mu mp (.forO t enm i p) (x :: l) Q ↔ kd (slB (x :: l)[i]?) fun d => ∃ xs, d = .list xs ∧ Wfo Φ Mu (i :: mp) t p i (.list xs) (if enm = true then enumL xs else xs) (x :: l) Q := Ws_forO'
theorem kd_sub {k : Ex} {ts : List Pt} {d : PyData} {rs : List Res} {K : Env → Prop} : kd (asgPs Φ Mu mp (.sub i k :: ts) (.sh d :: rs) (x :: l)) K ↔ kd (slB (x :: l)[i]?) fun _ => We Φ Mu mp k (x :: l) fun rk ρ1 => kd (valOf ρ1 rk) fun kk => kd (valOf ρ1 (.bor i)) fun dl => ∃ j xs, kk = .int j ∧ dl = .list xs ∧ kd (L2.ixN xs.length j) fun n =>
    kd (asgPs Φ Mu mp ts rs (ρ1.set i (some (true, .list (xs.set n d))))) K := kd_sub'
theorem kd_subO {k : Ex} {ts : List Pt} {d : PyData} {rs : List Res} {K : Env → Prop} : kd (asgPs Φ Mu mp (.sub i k :: ts) (.own d :: rs) (x :: l)) K ↔ kd (slB (x :: l)[i]?) fun _ => We Φ Mu mp k (x :: l) fun rk ρ1 => kd (valOf ρ1 rk) fun kk => kd (valOf ρ1 (.bor i)) fun dl => ∃ j xs, kk = .int j ∧ dl = .list xs ∧ kd (L2.ixN xs.length j) fun n =>
    kd (asgPs Φ Mu mp ts rs (ρ1.set i (some (true, .list (xs.set n d))))) K := kd_subO'
end
end MP

/-! W4: operations, loops. -/
namespace MP
open PySem
theorem szOk_of {n : Nat} (h : n ≤ 16777216) : szOk n = true := by
  unfold szOk
  exact decide_eq_true h
section
variable {i j : Int} {xs ys ds : List PyData} {d e : PyData} {b : Bool} {Q : Bool × PyData → Prop}
theorem Wo_add : Wo (.bin .add) [.int i, .int j] Q ↔ Q (false, .int (i + j)) := kd_some
theorem Wo_addL : Wo (.bin .add) [.list xs, .list ys] Q ↔ szOk (xs.length + ys.length) = true ∧ Q (true, .list (xs ++ ys)) := kd_if
theorem Wo_addT : Wo (.bin .add) [.tuple xs, .tuple ys] Q ↔ szOk (xs.length + ys.length) = true ∧ Q (false, .tuple (xs ++ ys)) := kd_if
theorem Wo_sub : Wo (.bin .sub) [.int i, .int j] Q ↔ Q (false, .int (i - j)) := kd_some
theorem Wo_mul : Wo (.bin .mul) [.int i, .int j] Q ↔ mulOk i j = true ∧ Q (false, .int (i * j)) := kd_if
theorem Wo_fdiv : Wo (.bin .fdiv) [.int i, .int j] Q ↔ divOk j = true ∧ Q (false, .int (i / j)) := kd_if
theorem Wo_mod : Wo (.bin .mod) [.int i, .int j] Q ↔ divOk j = true ∧ Q (false, .int (i % j)) := kd_if
theorem Wo_pow : Wo (.bin .pow) [.int i, .int j] Q ↔ powOk i j = true ∧ Q (false, .int (i ^ j.toNat)) := kd_if
theorem Wo_mulT : Wo (.bin .mul) [.tuple xs, .int j] Q ↔ (szOk (xs.length * j.toNat) && decide (j < 2 ^ 62) && decide (-(2 ^ 62) ≤ j)) = true ∧ Q (false, .tuple (List.replicate j.toNat xs).flatten) := kd_if
theorem Wo_mulL : Wo (.bin .mul) [.list xs, .int j] Q ↔ (szOk (xs.length * j.toNat) && decide (j < 2 ^ 62) && decide (-(2 ^ 62) ≤ j)) = true ∧ Q (true, .list (List.replicate j.toNat xs).flatten) := kd_if
theorem Wo_neg : Wo .neg [.int i] Q ↔ Q (false, .int (-i)) := kd_some
theorem Wo_not : Wo .not [.bool b] Q ↔ Q (false, .bool (!b)) := kd_some
theorem Wo_int : Wo .int [.int i] Q ↔ Q (false, .int i) := kd_some
theorem Wo_intB : Wo .int [.bool b] Q ↔ Q (false, .int (if b then 1 else 0)) := kd_some
theorem Wo_lt : Wo (.cmp .lt) [.int i, .int j] Q ↔ Q (false, .bool (decide (i < j))) := kd_some
theorem Wo_le : Wo (.cmp .le) [.int i, .int j] Q ↔ Q (false, .bool (decide (i ≤ j))) := kd_some
theorem Wo_gt : Wo (.cmp .gt) [.int i, .int j] Q ↔ Q (false, .bool (decide (j < i))) := kd_some
theorem Wo_ge : Wo (.cmp .ge) [.int i, .int j] Q ↔ Q (false, .bool (decide (j ≤ i))) := kd_some
theorem Wo_eq : Wo (.cmp .eq) [.int i, .int j] Q ↔ Q (false, .bool (decide (i = j))) := kd_some
theorem Wo_ne : Wo (.cmp .ne) [.int i, .int j] Q ↔ Q (false, .bool (!decide (i = j))) := kd_some
theorem Wo_eqS {s t : Str} : Wo (.cmp .eq) [.str s, .str t] Q ↔ Q (false, .bool (decide (s = t))) := kd_some
theorem Wo_neS {s t : Str} : Wo (.cmp .ne) [.str s, .str t] Q ↔ Q (false, .bool (!decide (s = t))) := kd_some
theorem eqD_gen (h : okD d = true) (h2 : okD e = true) (h3 : ∀ i j, d = .int i → e = .int j → False) (h4 : ∀ i j, d = .str i → e = .str j → False) : eqD d e = some (PyData.eqv d e) := by
  unfold eqD
  split
  · rename_i a c
    exact (h3 _ _ rfl rfl).elim
  · exact (h4 _ _ rfl rfl).elim
  · rw [h, h2]
    rfl
theorem Wo_eqT : Wo (.cmp .eq) [.tuple xs, .tuple ys] Q ↔ (okD (.tuple xs) && okD (.tuple ys)) = true ∧ Q (false, .bool (PyData.eqv (.tuple xs) (.tuple ys))) := by
  show kd (((if okD (.tuple xs) && okD (.tuple ys) then some (PyData.eqv (.tuple xs) (.tuple ys)) else none) : Option Bool).map fun c => ((false, .bool c) : Bool × PyData)) Q ↔ _
  rw [kd_map, kd_if]
theorem Wo_neT : Wo (.cmp .ne) [.tuple xs, .tuple ys] Q ↔ (okD (.tuple xs) && okD (.tuple ys)) = true ∧ Q (false, .bool (!PyData.eqv (.tuple xs) (.tuple ys))) := by
  show kd ((((if okD (.tuple xs) && okD (.tuple ys) then some (PyData.eqv (.tuple xs) (.tuple ys)) else none) : Option Bool).map (!·)).map fun c => ((false, .bool c) : Bool × PyData)) Q ↔ _
  rw [kd_map, kd_map, kd_if]
theorem Wo_eqL : Wo (.cmp .eq) [.list xs, .list ys] Q ↔ (okD (.list xs) && okD (.list ys)) = true ∧ Q (false, .bool (PyData.eqv (.list xs) (.list ys))) := by
  show kd (((if okD (.list xs) && okD (.list ys) then some (PyData.eqv (.list xs) (.list ys)) else none) : Option Bool).map fun c => ((false, .bool c) : Bool × PyData)) Q ↔ _
  rw [kd_map, kd_if]
theorem Wo_neL : Wo (.cmp .ne) [.list xs, .list ys] Q ↔ (okD (.list xs) && okD (.list ys)) = true ∧ Q (false, .bool (!PyData.eqv (.list xs) (.list ys))) := by
  show kd ((((if okD (.list xs) && okD (.list ys) then some (PyData.eqv (.list xs) (.list ys)) else none) : Option Bool).map (!·)).map fun c => ((false, .bool c) : Bool × PyData)) Q ↔ _
  rw [kd_map, kd_map, kd_if]
theorem Wo_eqB {b c : Bool} : Wo (.cmp .eq) [.bool b, .bool c] Q ↔ Q (false, .bool (b == c)) := by
  show kd (((if okD (.bool b) && okD (.bool c) then some (PyData.eqv (.bool b) (.bool c)) else none) : Option Bool).map fun c => ((false, .bool c) : Bool × PyData)) Q ↔ _
  rw [kd_map, if_pos (by rfl), kd_some]
  rw [PyData.eqv]
theorem Wo_neB {b c : Bool} : Wo (.cmp .ne) [.bool b, .bool c] Q ↔ Q (false, .bool (!(b == c))) := by
  show kd ((((if okD (.bool b) && okD (.bool c) then some (PyData.eqv (.bool b) (.bool c)) else none) : Option Bool).map (!·)).map fun c => ((false, .bool c) : Bool × PyData)) Q ↔ _
  rw [kd_map, kd_map, if_pos (by rfl), kd_some]
  rw [PyData.eqv]
theorem Wo_inL : Wo (.cmp .isin) [d, .list xs] Q ↔ (okD d && okDs xs) = true ∧ Q (false, .bool (xs.any fun y => PyData.eqv y d)) := by
  show kd (((if okD d && okDs xs then some (xs.any fun y => PyData.eqv y d) else none) : Option Bool).map fun c => ((false, .bool c) : Bool × PyData)) Q ↔ _
  rw [kd_map, kd_if]
theorem Wo_inT : Wo (.cmp .isin) [d, .tuple xs] Q ↔ (okD d && okDs xs) = true ∧ Q (false, .bool (xs.any fun y => PyData.eqv y d)) := by
  show kd (((if okD d && okDs xs then some (xs.any fun y => PyData.eqv y d) else none) : Option Bool).map fun c => ((false, .bool c) : Bool × PyData)) Q ↔ _
  rw [kd_map, kd_if]
theorem Wo_niL : Wo (.cmp .nin) [d, .list xs] Q ↔ (okD d && okDs xs) = true ∧ Q (false, .bool (!xs.any fun y => PyData.eqv y d)) := by
  show kd ((((if okD d && okDs xs then some (xs.any fun y => PyData.eqv y d) else none) : Option Bool).map (!·)).map fun c => ((false, .bool c) : Bool × PyData)) Q ↔ _
  rw [kd_map, kd_map, kd_if]
theorem Wo_niT : Wo (.cmp .nin) [d, .tuple xs] Q ↔ (okD d && okDs xs) = true ∧ Q (false, .bool (!xs.any fun y => PyData.eqv y d)) := by
  show kd ((((if okD d && okDs xs then some (xs.any fun y => PyData.eqv y d) else none) : Option Bool).map (!·)).map fun c => ((false, .bool c) : Bool × PyData)) Q ↔ _
  rw [kd_map, kd_map, kd_if]
theorem Wo_isN : Wo .isN [d] Q ↔ Q (false, .bool (isNone d)) := kd_some
theorem Wo_nisN : Wo .nisN [d] Q ↔ Q (false, .bool (!isNone d)) := kd_some
theorem Wo_lenL : Wo .len [.list xs] Q ↔ Q (false, .int xs.length) := kd_some
theorem Wo_lenT : Wo .len [.tuple xs] Q ↔ Q (false, .int xs.length) := kd_some
theorem Wo_isa {ts : List Tn} : Wo (.isa ts) [d] Q ↔ Q (false, .bool (ts.any (isT d))) := kd_some
theorem Wo_tupleL : Wo .tuple [.list xs] Q ↔ Q (false, .tuple xs) := kd_some
theorem Wo_tupleT : Wo .tuple [.tuple xs] Q ↔ Q (false, .tuple xs) := kd_some
theorem Wo_listL : Wo .list [.list xs] Q ↔ Q (true, .list xs) := kd_some
theorem Wo_listT : Wo .list [.tuple xs] Q ↔ Q (true, .list xs) := kd_some
theorem Wo_sum : Wo .sum [.list xs] Q ↔ kd (sumI xs) fun i => Q (false, .int i) := kd_map
theorem Wo_sumT : Wo .sum [.tuple xs] Q ↔ kd (sumI xs) fun i => Q (false, .int i) := kd_map
theorem Wo_sortedL : Wo .sorted [.list xs] Q ↔ (sortOk xs && okDs xs) = true ∧ Q (true, .list (sortD xs)) := kd_if
theorem Wo_sortedT : Wo .sorted [.tuple xs] Q ↔ (sortOk xs && okDs xs) = true ∧ Q (true, .list (sortD xs)) := kd_if
theorem Wo_all : Wo .all [.list xs] Q ↔ boolish xs = true ∧ Q (false, .bool (xs.all PyData.truthy)) := kd_if
theorem Wo_any : Wo .any [.list xs] Q ↔ boolish xs = true ∧ Q (false, .bool (xs.any PyData.truthy)) := kd_if
theorem Wo_repr : Wo .repr [d] Q ↔ (d.showable && (decide (d.depth ≤ 100) && szOk d.shown.length)) = true ∧ Q (false, .str d.shown) := kd_if
theorem Wo_max1 : Wo .max1 [.list xs] Q ↔ cmpOk xs = true ∧ kd (bests (fun y a => PySem.W.dataLt a y) xs) fun x => Q (false, x) := by
  show kd ((asSeq (.list xs)).bind fun xs => if cmpOk xs then (bests (fun y a => PySem.W.dataLt a y) xs).map fun x => (false, x) else none) Q ↔ _
  rw [asSeq_l, Option.bind_some]
  by_cases h : cmpOk xs = true
  · rw [if_pos h, kd_map]
    simp [h]
  · rw [if_neg h]
    simp [h, kd]
theorem Wo_min1 : Wo .min1 [.list xs] Q ↔ cmpOk xs = true ∧ kd (bests PySem.W.dataLt xs) fun x => Q (false, x) := by
  show kd ((asSeq (.list xs)).bind fun xs => if cmpOk xs then (bests PySem.W.dataLt xs).map fun x => (false, x) else none) Q ↔ _
  rw [asSeq_l, Option.bind_some]
  by_cases h : cmpOk xs = true
  · rw [if_pos h, kd_map]
    simp [h]
  · rw [if_neg h]
    simp [h, kd]
theorem Wo_min2 : Wo .min2 [.int i, .int j] Q ↔ Q (false, .int (if j < i then j else i)) := kd_some
theorem Wo_max2 : Wo .max2 [.int i, .int j] Q ↔ Q (false, .int (if i < j then j else i)) := kd_some
theorem Wo_lrng {ds : List PyData} : Wo .lrng ds Q ↔ kd (rng ds) fun xs => Q (true, .list xs) := kd_map
theorem Wo_trng {ds : List PyData} : Wo .trng ds Q ↔ kd (rng ds) fun xs => Q (false, .tuple xs) := kd_map
/-- at a place -/
def atD (xs : List PyData) (i : Int) : Option PyData := (L2.ixN xs.length i).bind fun k => xs[k]?
theorem Wo_idxL : Wo .idx [.list xs, .int i] Q ↔ kd (atD xs i) fun x => Q (false, x) := by
  show kd (((L2.ixN xs.length i).bind fun k => (xs[k]?).map fun x => ((false, x) : Bool × PyData))) Q ↔ _
  unfold atD
  rw [kd_bind, kd_bind]
  simp only [kd_map]
theorem Wo_idxT : Wo .idx [.tuple xs, .int i] Q ↔ kd (atD xs i) fun x => Q (false, x) := by
  show kd (((L2.ixN xs.length i).bind fun k => (xs[k]?).map fun x => ((false, x) : Bool × PyData))) Q ↔ _
  unfold atD
  rw [kd_bind, kd_bind]
  simp only [kd_map]
theorem Wo_index {i : Int} : Wo .index [.list xs, .int i] Q ↔ kd (intsOf xs) fun ns => i ∈ ns ∧ Q (false, .int ((ns.idxOf i : Nat) : Int)) := by
  show kd ((intsOf xs).bind fun ns => if i ∈ ns then some ((false, .int ((ns.idxOf i : Nat) : Int)) : Bool × PyData) else none) Q ↔ _
  rw [kd_bind]
  simp only [kd_if]
theorem Wo_is {a b : Bool} : Wo (.cmp .is) [.bool a, .bool b] Q ↔ Q (false, .bool (decide (a = b))) := kd_some
theorem Wo_isnt {a b : Bool} : Wo (.cmp .isnt) [.bool a, .bool b] Q ↔ Q (false, .bool (!decide (a = b))) := kd_some
theorem intsOf_ints : ∀ ns : List Int, intsOf (ns.map .int) = some ns
  | [] => rfl
  | n :: ns => by
    show (intsOf (ns.map .int)).map (n :: ·) = _
    rw [intsOf_ints ns]
    rfl
theorem Wo_tup : Wo .tup ds Q ↔ szOk ds.length = true ∧ Q (false, .tuple ds) := by
  rw [← kd_if]
  rfl
theorem Wo_lst : Wo .lst ds Q ↔ szOk ds.length = true ∧ Q (true, .list ds) := by
  rw [← kd_if]
  rfl
end
theorem ixN_nat {n : Nat} {i : Int} (h0 : 0 ≤ i) (h1 : i < n) : L2.ixN n i = some i.toNat := by
  unfold L2.ixN
  rw [if_pos h0, if_pos h1]
theorem ixN_neg {n : Nat} {i : Int} (h0 : i < 0) (h1 : -(n : Int) ≤ i) : L2.ixN n i = some (i + n).toNat := by
  unfold L2.ixN
  rw [if_neg (by omega), if_pos h1]
theorem atD_0 {x : PyData} {xs : List PyData} : atD (x :: xs) 0 = some x := by
  unfold atD
  rw [ixN_nat (by decide) (by simp)]
  rfl
theorem atD_1 {x y : PyData} {xs : List PyData} : atD (x :: y :: xs) 1 = some y := by
  unfold atD
  rw [ixN_nat (by decide) (by simp only [List.length_cons]; omega)]
  rfl
theorem atD_2 {x y z : PyData} {xs : List PyData} : atD (x :: y :: z :: xs) 2 = some z := by
  unfold atD
  rw [ixN_nat (by decide) (by simp only [List.length_cons]; omega)]
  rfl
theorem atD_3 {x y z w : PyData} {xs : List PyData} : atD (x :: y :: z :: w :: xs) 3 = some w := by
  unfold atD
  rw [ixN_nat (by decide) (by simp only [List.length_cons]; omega)]
  rfl
theorem atD_4 {x y z w v : PyData} {xs : List PyData} : atD (x :: y :: z :: w :: v :: xs) 4 = some v := by
  unfold atD
  rw [ixN_nat (by decide) (by simp only [List.length_cons]; omega)]
  rfl
theorem atD_nat {xs : List PyData} {i : Int} {x : PyData} (h0 : 0 ≤ i) (h : xs[i.toNat]? = some x) : atD xs i = some x := by
  have hl := (List.getElem?_eq_some_iff.mp h).1
  unfold atD
  rw [ixN_nat h0 (by omega)]
  exact h
theorem atD_ofNat {xs : List PyData} {n : Nat} : atD xs (n : Int) = xs[n]? := by
  unfold atD
  by_cases h : n < xs.length
  · rw [ixN_nat (by omega) (by omega)]
    simp
  · have : L2.ixN xs.length (n : Int) = none := by
      unfold L2.ixN
      rw [if_pos (by omega), if_neg (by omega)]
    rw [this]
    simp
    omega
theorem kd_rng1 {j : Int} {k : List PyData → Prop} : kd (rng [.int j]) k ↔ rngOk 0 j = true ∧ k (rngL 0 j) := kd_if
theorem kd_rng2 {i j : Int} {k : List PyData → Prop} : kd (rng [.int i, .int j]) k ↔ rngOk i j = true ∧ k (rngL i j) := kd_if
theorem rngOk_of {a b : Int} (h : -1000000000 ≤ a) (h1 : a ≤ 1000000000) (h2 : -1000000000 ≤ b) (h3 : b ≤ 1000000000) (h4 : b - a ≤ 16777216) : rngOk a b = true := by
  unfold rngOk
  simp only [Bool.and_eq_true, decide_eq_true_eq]
  refine ⟨⟨⟨⟨by omega, by omega⟩, by omega⟩, by omega⟩, szOk_of (by omega)⟩
theorem cmp_lt {i j : Int} : cmp .lt (.int i) (.int j) = some (decide (i < j)) := rfl
theorem cmp_le {i j : Int} : cmp .le (.int i) (.int j) = some (decide (i ≤ j)) := rfl
theorem cmp_gt {i j : Int} : cmp .gt (.int i) (.int j) = some (decide (j < i)) := rfl
theorem cmp_ge {i j : Int} : cmp .ge (.int i) (.int j) = some (decide (j ≤ i)) := rfl
theorem cmp_eq {i j : Int} : cmp .eq (.int i) (.int j) = some (decide (i = j)) := rfl
theorem seqs_nil : seqs [] = some [] := rfl
theorem seqs_cons {d : PyData} {ds : List PyData} : seqs (d :: ds) = (asSeq d).bind fun x => (seqs ds).map (x :: ·) := by
  rw [seqs]
  cases asSeq d <;> cases seqs ds <;> rfl
theorem zipL_2 {xs ys : List PyData} : zipL false [xs, ys] = some ((xs.zip ys).map fun p => [p.1, p.2]) := rfl
theorem kd_zip2 {xs ys : List PyData} {k : List (List PyData) → Prop} : kd (zipL true [xs, ys]) k ↔ xs.length = ys.length ∧ k ((xs.zip ys).map fun p => [p.1, p.2]) := by
  unfold zipL
  by_cases h : xs.length = ys.length <;> simp [h, kd]
theorem sl_l {xs : List PyData} {a b : Option Int} : sliceD a b none (.list xs) = some (true, .list (sliced xs a b)) := rfl
theorem sl_t {xs : List PyData} {a b : Option Int} : sliceD a b none (.tuple xs) = some (false, .tuple (sliced xs a b)) := rfl
theorem sl_rl {xs : List PyData} : sliceD none none (some (-1)) (.list xs) = some (true, .list xs.reverse) := rfl
theorem sl_rt {xs : List PyData} : sliceD none none (some (-1)) (.tuple xs) = some (false, .tuple xs.reverse) := rfl
theorem mtS_append {xs : List PyData} {d : PyData} {k : PyData × PyData → Prop} : kd (mtS .append (.list xs) [d]) k ↔ szOk (xs.length + 1) = true ∧ k (.none, .list (xs ++ [d])) := kd_if
theorem mtS_extend {xs ys : List PyData} {k : PyData × PyData → Prop} : kd (mtS .extend (.list xs) [.list ys]) k ↔ szOk (xs.length + ys.length) = true ∧ k (.none, .list (xs ++ ys)) := kd_if
/-! side conditions -/
theorem mulOk_l {i j : Int} (h : -18446744073709551616 < i) (h2 : i < 18446744073709551616) : mulOk i j = true := by
  unfold mulOk
  have : i.natAbs < 2 ^ 64 := by omega
  rw [decide_eq_true this]
  rfl
theorem mulOk_r {i j : Int} (h : -18446744073709551616 < j) (h2 : j < 18446744073709551616) : mulOk i j = true := by
  unfold mulOk
  have : j.natAbs < 2 ^ 64 := by omega
  rw [decide_eq_true this, Bool.or_true]
  rfl
theorem divOk_of {j : Int} (h : 0 < j) (h2 : j < 18446744073709551616) : divOk j = true := by
  unfold divOk
  have h3 : j.natAbs < 2 ^ 64 := by omega
  have h4 : j.natAbs.log2 < 9000 := Nat.lt_of_lt_of_le ((Nat.log2_lt (by omega)).mpr h3) (by decide)
  rw [decide_eq_true h, decide_eq_true h4]
  rfl
theorem powOk_of {i j : Int} (h : -18446744073709551616 < i) (h2 : i < 18446744073709551616) (h3 : 0 ≤ j) (h4 : j ≤ 1000000) : powOk i j = true := by
  unfold powOk
  have : i.natAbs < 2 ^ 64 := by omega
  rw [decide_eq_true this, decide_eq_true h3, decide_eq_true h4]
  rfl
theorem divOk_big {j : Int} (h : 0 < j) (h2 : j < 100000000000000000000000000000000000000000000000000) : divOk j = true := by
  unfold divOk
  have h3 : j.natAbs < 2 ^ 200 := by omega
  have h4 : j.natAbs.log2 < 9000 := Nat.lt_of_lt_of_le ((Nat.log2_lt (by omega)).mpr h3) (by decide)
  rw [decide_eq_true h, decide_eq_true h4]
  rfl
theorem log2_small {i : Int} (h : -100000000000000000000000000000000000000000000000000 < i) (h2 : i < 100000000000000000000000000000000000000000000000000) : i.natAbs.log2 < 200 := by
  by_cases h0 : i.natAbs = 0
  · rw [h0]
    decide
  · exact (Nat.log2_lt h0).mpr (by omega)
theorem mulOk_big {i j : Int} (h : -100000000000000000000000000000000000000000000000000 < i) (h2 : i < 100000000000000000000000000000000000000000000000000) (h3 : -100000000000000000000000000000000000000000000000000 < j) (h4 : j < 100000000000000000000000000000000000000000000000000) : mulOk i j = true := by
  unfold mulOk
  have a := log2_small h h2
  have b := log2_small h3 h4
  rw [decide_eq_true (show i.natAbs.log2 + j.natAbs.log2 < 1000000 by omega), Bool.or_true]
/-! ### loops -/
section
variable {Φ : Ph} {Mu : Nat → List Bool} {mp : List Nat} {ρ : Env} {t : Tg} {p : Sts} {elt : Ex} {ifs : Exs} {cl : Cl} {own : List Nat}
/-- one turn of a loop -/
def Wt (Φ : Ph) (Mu : Nat → List Bool) (mp : List Nat) (t : Tg) (p : Sts) (y : PyData) (ρ : Env) (N : Env → Prop) (Q : Fl → Env → Prop) : Prop := kd (asgT mp t y ρ) fun ρ1 => Wss Φ Mu mp p ρ1 fun fl ρ2 => kturn fl ρ2 N Q
theorem Wf_nil {Q : Fl → Env → Prop} : Wf Φ Mu mp t p [] ρ Q ↔ Q .nx ρ := ok2_some
theorem Wf_cons {y : PyData} {ys : List PyData} {Q : Fl → Env → Prop} : Wf Φ Mu mp t p (y :: ys) ρ Q ↔ Wt Φ Mu mp t p y ρ (fun ρ => Wf Φ Mu mp t p ys ρ Q) Q := by
  unfold Wf Wt Wss
  rw [loopF, tgB]
  rcases asgT mp t y ρ with _ | ρ1
  · simp [ok2_none, ok2_some, kd_none, kd_some]
  simp only [kd_some]
  rcases execs Φ Mu mp p ρ1 with _ | ⟨_ | _ | _ | v, ρ2⟩ <;> simp [ok2_none, ok2_some, kturn]
/-- by the number of turns behind -/
theorem Wf_ix {Q : Fl → Env → Prop} {xs : List PyData} (J : Nat → Env → Prop) (h0 : J 0 ρ) (hs : ∀ k y ρ, xs[k]? = some y → J k ρ → Wt Φ Mu mp t p y ρ (J (k + 1)) Q) (hd : ∀ ρ, J xs.length ρ → Q .nx ρ) : Wf Φ Mu mp t p xs ρ Q := by
  induction xs generalizing ρ J with
  | nil => exact Wf_nil.mpr (hd ρ h0)
  | cons y ys ih =>
    rw [Wf_cons]
    have h1 := hs 0 y ρ rfl h0
    refine kd.mono h1 fun ρ1 h2 => Wss.mono h2 fun fl ρ2 h3 => ?_
    cases fl with
    | nx => exact ih (fun k => J (k + 1)) h3 (fun k y ρ hk hj => hs (k + 1) y ρ hk hj) hd
    | ct => exact ih (fun k => J (k + 1)) h3 (fun k y ρ hk hj => hs (k + 1) y ρ hk hj) hd
    | br => exact h3
    | rt v => exact h3
theorem rngL_getW {a b : Int} {k : Nat} {y : PyData} (h : (rngL a b)[k]? = some y) : y = .int (a + k) ∧ a + k < b := by
  unfold rngL at h
  rw [List.getElem?_map] at h
  by_cases hk : k < (b - a).toNat
  · rw [List.getElem?_range hk] at h
    simp at h
    exact ⟨h.symm, by omega⟩
  · rw [List.getElem?_eq_none (by simp; omega)] at h
    simp at h
theorem rngL_len {a b : Int} : (rngL a b).length = (b - a).toNat := by simp [rngL]
/-- over a range from 0 -/
theorem Wf_rng {Q : Fl → Env → Prop} {n : Int} (J : Nat → Env → Prop) (h0 : J 0 ρ) (hs : ∀ k : Nat, ∀ ρ, (k : Int) < n → J k ρ → Wt Φ Mu mp t p (.int k) ρ (J (k + 1)) Q) (hd : ∀ ρ, J n.toNat ρ → Q .nx ρ) : Wf Φ Mu mp t p (rngL 0 n) ρ Q := by
  refine Wf_ix J h0 (fun k y ρ hk hj => ?_) (fun ρ h => hd ρ (by rwa [rngL_len, Int.sub_zero] at h))
  obtain ⟨e, hl⟩ := rngL_getW hk
  rw [Int.zero_add] at e hl
  subst e
  exact hs k ρ hl hj
/-! comprehensions -/
/-- one turn of the last clause -/
def Wct (Φ : Ph) (Mu : Nat → List Bool) (mp : List Nat) (t : Tg) (ifs : Exs) (elt : Ex) (y : PyData) (ρ : Env) (N : List PyData → Env → Prop) : Prop :=
  kd (asgT mp t y ρ) fun ρ1 => Wb Φ Mu mp true ifs ρ1 fun b ρ2 => kite b (fun ρ => We Φ Mu mp elt ρ fun r ρ3 => kd (valOf ρ3 r) fun d => N [d] (frzR ρ3 r)) (fun ρ => N [] ρ) ρ2
theorem denL_last {k : Env → Option (List PyData × Env)} {it : It} {xs : List PyData} : denL Φ Mu mp k (.last t it ifs) xs ρ = loopC (cBody mp t (fun ρ => denB Φ Mu mp true ifs ρ) k) xs ρ := by rw [denL]
theorem denL_more {k : Env → Option (List PyData × Env)} {it : It} {xs : List PyData} : denL Φ Mu mp k (.more t it ifs cl) xs ρ = loopC (cBody mp t (fun ρ => denB Φ Mu mp true ifs ρ) (fun ρ => match denF Φ Mu mp cl ρ with
    | some (ys, ρ1) => denL Φ Mu mp k cl ys ρ1
    | none => none)) xs ρ := by
  rw [denL] <;> rfl
theorem kE_ok {R : List PyData → Env → Prop} : ok2 (kE Φ Mu mp elt ρ) R ↔ ok2 (den Φ Mu mp elt ρ) fun r ρ3 => kd (valOf ρ3 r) fun d => R [d] (frzR ρ3 r) := by
  unfold kE
  rcases den Φ Mu mp elt ρ with _ | ⟨r, ρ3⟩
  · simp [ok2_none]
  simp only [ok2_some]
  rcases valOf ρ3 r with _ | d <;> simp [ok2_none, ok2_some, kd_none, kd_some]
theorem Wl_nil1 {Q : List PyData → Env → Prop} {it : It} : Wl Φ Mu mp elt (.last t it ifs) [] ρ Q ↔ Q [] ρ := by
  unfold Wl
  rw [denL]
  exact ok2_some
theorem Wl_nil2 {Q : List PyData → Env → Prop} {it : It} : Wl Φ Mu mp elt (.more t it ifs cl) [] ρ Q ↔ Q [] ρ := by
  unfold Wl
  rw [denL]
  exact ok2_some
theorem Wl_cons1 {y : PyData} {ys : List PyData} {Q : List PyData → Env → Prop} {it : It} : Wl Φ Mu mp elt (.last t it ifs) (y :: ys) ρ Q ↔ Wct Φ Mu mp t ifs elt y ρ fun ds ρ1 => Wl Φ Mu mp elt (.last t it ifs) ys ρ1 fun es ρ2 => Q (ds ++ es) ρ2 := by
  unfold Wl Wct Wb We
  simp only [denL_last]
  rw [loopC, cBody]
  rcases asgT mp t y ρ with _ | ρ1
  · simp [ok2_none, ok2_some, kd_none, kd_some]
  simp only [kd_some]
  rcases denB Φ Mu mp true ifs ρ1 with _ | ⟨_ | _, ρ2⟩
  · simp [ok2_none, ok2_some]
  · simp only [ok2_some, kite_f]
    generalize loopC _ ys ρ2 = o
    rcases o with _ | ⟨r, ρ3⟩ <;> simp [ok2_none, ok2_some]
  · simp only [ok2_some, kite_t]
    rw [← kE_ok (R := fun ds ρ1 => ok2 (loopC (cBody mp t (fun ρ => denB Φ Mu mp true ifs ρ) (kE Φ Mu mp elt)) ys ρ1) fun es ρ2 => Q (ds ++ es) ρ2)]
    show ok2 (match kE Φ Mu mp elt ρ2 with
      | some (r, ρ1) => (match loopC (cBody mp t (fun ρ => denB Φ Mu mp true ifs ρ) (kE Φ Mu mp elt)) ys ρ1 with
        | some (rs, ρ2) => some (r ++ rs, ρ2)
        | none => none)
      | none => none) Q ↔ _
    rcases kE Φ Mu mp elt ρ2 with _ | ⟨r, ρ3⟩
    · simp [ok2_none]
    simp only [ok2_some]
    generalize loopC _ ys ρ3 = o
    rcases o with _ | ⟨r, ρ4⟩ <;> simp [ok2_none, ok2_some]
theorem Wl_cons2 {y : PyData} {ys : List PyData} {Q : List PyData → Env → Prop} {it : It} : Wl Φ Mu mp elt (.more t it ifs cl) (y :: ys) ρ Q ↔ kd (asgT mp t y ρ) fun ρ1 => Wb Φ Mu mp true ifs ρ1 fun b ρ2 => kite b (fun ρ => ok2 (denF Φ Mu mp cl ρ) fun zs ρ3 => Wl Φ Mu mp elt cl zs ρ3 fun ds ρ4 => Wl Φ Mu mp elt (.more t it ifs cl) ys ρ4 fun es ρ5 => Q (ds ++ es) ρ5)
    (fun ρ => Wl Φ Mu mp elt (.more t it ifs cl) ys ρ Q) ρ2 := by
  unfold Wl Wb
  simp only [denL_more]
  rw [loopC, cBody]
  rcases asgT mp t y ρ with _ | ρ1
  · simp [ok2_none, ok2_some, kd_none, kd_some]
  simp only [kd_some]
  rcases denB Φ Mu mp true ifs ρ1 with _ | ⟨_ | _, ρ2⟩
  · simp [ok2_none, ok2_some]
  · simp only [ok2_some, kite_f]
    generalize loopC _ ys ρ2 = o
    rcases o with _ | ⟨r, ρ3⟩ <;> simp [ok2_none, ok2_some]
  · simp only [ok2_some, kite_t]
    rcases denF Φ Mu mp cl ρ2 with _ | ⟨zs, ρ3⟩
    · simp [ok2_none, ok2_some]
    simp only [ok2_some]
    rcases denL Φ Mu mp (kE Φ Mu mp elt) cl zs ρ3 with _ | ⟨ds, ρ4⟩
    · simp [ok2_none, ok2_some]
    simp only [ok2_some]
    generalize loopC _ ys ρ4 = o
    rcases o with _ | ⟨r, ρ5⟩ <;> simp [ok2_none, ok2_some]
theorem Wl.mono {xs : List PyData} {Q R : List PyData → Env → Prop} (h : Wl Φ Mu mp elt cl xs ρ Q) (k : ∀ a b, Q a b → R a b) : Wl Φ Mu mp elt cl xs ρ R := ok2.mono h k
theorem Wct.mono {y : PyData} {N M : List PyData → Env → Prop} (h : Wct Φ Mu mp t ifs elt y ρ N) (k : ∀ a b, N a b → M a b) : Wct Φ Mu mp t ifs elt y ρ M := by
  refine kd.mono h fun ρ1 h1 => ok2.mono h1 fun b ρ2 h2 => ⟨fun e => ok2.mono (h2.1 e) fun r ρ3 h3 => kd.mono h3 fun d h4 => k _ _ h4, fun e => k _ _ (h2.2 e)⟩
/-- by the number of turns behind, and what they listed -/
theorem Wl_ix {Q : List PyData → Env → Prop} {it : It} {xs : List PyData} (J : Nat → List PyData → Env → Prop) (h0 : J 0 [] ρ) (hs : ∀ k y acc ρ, xs[k]? = some y → J k acc ρ → Wct Φ Mu mp t ifs elt y ρ fun ds ρ1 => J (k + 1) (acc ++ ds) ρ1) (hd : ∀ out ρ, J xs.length out ρ → Q out ρ) : Wl Φ Mu mp elt (.last t it ifs) xs ρ Q := by
  have main : ∀ (xs : List PyData) (ρ : Env) (J : Nat → List PyData → Env → Prop) (acc : List PyData) (Q : List PyData → Env → Prop), J 0 acc ρ → (∀ k y acc ρ, xs[k]? = some y → J k acc ρ → Wct Φ Mu mp t ifs elt y ρ fun ds ρ1 => J (k + 1) (acc ++ ds) ρ1) → (∀ out ρ, J xs.length (acc ++ out) ρ → Q out ρ) → Wl Φ Mu mp elt (.last t it ifs) xs ρ Q := by
    intro xs
    induction xs with
    | nil =>
      intro ρ J acc Q h0 hs hd
      exact Wl_nil1.mpr (hd [] ρ (by rwa [List.append_nil]))
    | cons y ys ih =>
      intro ρ J acc Q h0 hs hd
      rw [Wl_cons1]
      refine (hs 0 y acc ρ rfl h0).mono fun ds ρ1 h1 => ?_
      exact ih ρ1 (fun k => J (k + 1)) (acc ++ ds) _ h1 (fun k y acc ρ hk hj => hs (k + 1) y acc ρ hk hj) (fun out ρ h2 => hd _ _ (by rwa [← List.append_assoc]))
  exact main xs ρ J [] Q h0 hs (by simpa using hd)
/-- the own slots filled -/
def fill (ρ : Env) : List Nat → List (Option (Bool × PyData)) → Env
  | i :: is, o :: os => (fill ρ is os).set i o
  | _, _ => ρ
theorem fill_nil {os : List (Option (Bool × PyData))} : fill ρ [] os = ρ := by cases os <;> rfl
theorem fill_cons {i : Nat} {is : List Nat} {o : Option (Bool × PyData)} {os : List (Option (Bool × PyData))} : fill ρ (i :: is) (o :: os) = (fill ρ is os).set i o := rfl
theorem fill_len : ∀ (is : List Nat) (os : List (Option (Bool × PyData))), (fill ρ is os).length = ρ.length
  | [], os => by rw [fill_nil]
  | i :: is, [] => rfl
  | i :: is, o :: os => by rw [fill_cons, List.length_set, fill_len is os]
theorem fill_off : ∀ (is : List Nat) (os : List (Option (Bool × PyData))) (j : Nat), j ∉ is → (fill ρ is os)[j]? = ρ[j]?
  | [], os, j, _ => by rw [fill_nil]
  | i :: is, [], j, _ => rfl
  | i :: is, o :: os, j, h => by
    rw [fill_cons, List.getElem?_set_ne (fun e => h (by simp [e])), fill_off is os j (fun z => h (by simp [z]))]
theorem wipe_fill : ∀ is : List Nat, wipe ρ is = fill ρ is (is.map fun _ => none)
  | [] => by rw [fill_nil]; rfl
  | i :: is => by
    rw [wipe_cons, wipe_fill is]
    rfl
theorem back_get (ρ0 ρ1 : Env) : ∀ (is : List Nat) (j : Nat), j < ρ1.length → (back ρ0 ρ1 is)[j]? = if j ∈ is then some ((ρ0[j]?).getD none) else ρ1[j]?
  | [], j, hj => by simp [back]
  | i :: is, j, hj => by
    have hl : ∀ is : List Nat, (back ρ0 ρ1 is).length = ρ1.length := by
      intro is
      induction is with
      | nil => rfl
      | cons i is ih => rw [back, List.length_set, ih]
    rw [back]
    by_cases e : i = j
    · subst e
      rw [List.getElem?_set_self (by rw [hl]; exact hj)]
      simp
    · rw [List.getElem?_set_ne e, back_get ρ0 ρ1 is j hj]
      have : j ≠ i := fun z => e z.symm
      simp [this]
theorem back_lenW (ρ0 ρ1 : Env) (is : List Nat) : (back ρ0 ρ1 is).length = ρ1.length := by
  induction is with
  | nil => rfl
  | cons i is ih => rw [back, List.length_set, ih]
theorem back_fill (is : List Nat) (os : List (Option (Bool × PyData))) : back ρ (fill ρ is os) is = ρ := by
  apply List.ext_getElem?
  intro j
  by_cases hj : j < ρ.length
  · rw [back_get _ _ _ _ (by rw [fill_len]; exact hj)]
    split
    · rw [List.getElem?_eq_getElem hj]
      rfl
    · rename_i h
      exact fill_off is os j h
  · rw [List.getElem?_eq_none (by rw [back_lenW, fill_len]; omega), List.getElem?_eq_none (by omega)]
/-- a comprehension whose turns leave the rest as it is: what it lists -/
theorem Wk_pure {Q : Res → Env → Prop} {it : It} {xs : List PyData} (g : PyData → List PyData) (hs : ∀ y ∈ xs, ∀ os, os.length = own.length → Wct Φ Mu mp t ifs elt y (fill ρ own os) fun ds ρ1 => ds = g y ∧ ∃ os', os'.length = own.length ∧ ρ1 = fill ρ own os')
    (hd : szOk (xs.flatMap g).length = true ∧ Q (.own (.list (xs.flatMap g))) ρ) : Wk Φ Mu mp own elt (.last t it ifs) xs ρ Q := by
  unfold Wk
  refine Wl_ix (fun k acc ρ1 => acc = (xs.take k).flatMap g ∧ ∃ os, os.length = own.length ∧ ρ1 = fill ρ own os) ⟨by simp, _, by simp, wipe_fill own⟩ ?_ ?_
  · rintro k y acc ρ1 hk ⟨ha, os, hl, hr⟩
    subst hr
    refine (hs y (List.mem_of_getElem? hk) os hl).mono ?_
    rintro ds ρ2 ⟨h1, os', h2, h3⟩
    refine ⟨?_, os', h2, h3⟩
    subst ha h1
    rw [List.take_add_one, hk]
    simp
  · rintro out ρ1 ⟨ha, os, hl, hr⟩
    subst hr
    rw [List.take_length] at ha
    subst ha
    rw [back_fill own os]
    exact hd
theorem Wk_pure1 {Q : Res → Env → Prop} {it : It} {xs : List PyData} {i : Nat} (g : PyData → List PyData) (hs : ∀ y ∈ xs, ∀ o, Wct Φ Mu mp t ifs elt y (fill ρ [i] [o]) fun ds ρ1 => ds = g y ∧ ∃ p, ρ1 = fill ρ [i] [p])
    (hd : szOk (xs.flatMap g).length = true ∧ Q (.own (.list (xs.flatMap g))) ρ) : Wk Φ Mu mp [i] elt (.last t it ifs) xs ρ Q := by
  refine Wk_pure g (fun y hy os hl => ?_) hd
  match os, hl with
  | [o], _ => exact (hs y hy o).mono fun ds ρ1 ⟨h1, p, h2⟩ => ⟨h1, [p], rfl, h2⟩
theorem Wk_pure2 {Q : Res → Env → Prop} {it : It} {xs : List PyData} {i j : Nat} (g : PyData → List PyData) (hs : ∀ y ∈ xs, ∀ o o2, Wct Φ Mu mp t ifs elt y (fill ρ [i, j] [o, o2]) fun ds ρ1 => ds = g y ∧ ∃ p p2, ρ1 = fill ρ [i, j] [p, p2])
    (hd : szOk (xs.flatMap g).length = true ∧ Q (.own (.list (xs.flatMap g))) ρ) : Wk Φ Mu mp [i, j] elt (.last t it ifs) xs ρ Q := by
  refine Wk_pure g (fun y hy os hl => ?_) hd
  match os, hl with
  | [o, o2], _ => exact (hs y hy o o2).mono fun ds ρ1 ⟨h1, p, p2, h2⟩ => ⟨h1, [p, p2], rfl, h2⟩
end
/-! ### comprehensions of two clauses -/
/-- one turn of an outer clause -/
def Wmt (Φ : Ph) (Mu : Nat → List Bool) (mp : List Nat) (t : Tg) (ifs : Exs) (elt : Ex) (cl : Cl) (y : PyData) (ρ : Env) (N : List PyData → Env → Prop) : Prop :=
  kd (asgT mp t y ρ) fun ρ1 => Wb Φ Mu mp true ifs ρ1 fun b ρ2 => kite b (fun ρ => ok2 (denF Φ Mu mp cl ρ) fun zs ρ3 => Wl Φ Mu mp elt cl zs ρ3 N) (fun ρ => N [] ρ) ρ2
section
variable {Φ : Ph} {Mu : Nat → List Bool} {mp : List Nat} {ρ : Env} {t : Tg} {elt : Ex} {ifs : Exs} {cl : Cl} {own : List Nat}
theorem Wmt.mono {y : PyData} {N M : List PyData → Env → Prop} (h : Wmt Φ Mu mp t ifs elt cl y ρ N) (k : ∀ a b, N a b → M a b) : Wmt Φ Mu mp t ifs elt cl y ρ M := by
  refine kd.mono h fun ρ1 h1 => ok2.mono h1 fun b ρ2 h2 => ⟨fun e => ok2.mono (h2.1 e) fun r ρ3 h3 => ok2.mono h3 fun d ρ4 h4 => k _ _ h4, fun e => k _ _ (h2.2 e)⟩
theorem denF_last {it : It} {Q : List PyData → Env → Prop} : ok2 (denF Φ Mu mp (.last t it ifs) ρ) Q ↔ Wi Φ Mu mp it ρ Q := by
  rw [denF]
  exact Iff.rfl
theorem denF_more {it : It} {Q : List PyData → Env → Prop} : ok2 (denF Φ Mu mp (.more t it ifs cl) ρ) Q ↔ Wi Φ Mu mp it ρ Q := by
  rw [denF]
  exact Iff.rfl
theorem Wl_cons2' {y : PyData} {ys : List PyData} {Q : List PyData → Env → Prop} {it : It} : Wl Φ Mu mp elt (.more t it ifs cl) (y :: ys) ρ Q ↔ Wmt Φ Mu mp t ifs elt cl y ρ fun ds ρ1 => Wl Φ Mu mp elt (.more t it ifs cl) ys ρ1 fun es ρ2 => Q (ds ++ es) ρ2 := by
  rw [Wl_cons2]
  unfold Wmt
  simp only [List.nil_append]
theorem Wl_ix2 {Q : List PyData → Env → Prop} {it : It} {xs : List PyData} (J : Nat → List PyData → Env → Prop) (h0 : J 0 [] ρ) (hs : ∀ k y acc ρ, xs[k]? = some y → J k acc ρ → Wmt Φ Mu mp t ifs elt cl y ρ fun ds ρ1 => J (k + 1) (acc ++ ds) ρ1) (hd : ∀ out ρ, J xs.length out ρ → Q out ρ) : Wl Φ Mu mp elt (.more t it ifs cl) xs ρ Q := by
  have main : ∀ (xs : List PyData) (ρ : Env) (J : Nat → List PyData → Env → Prop) (acc : List PyData) (Q : List PyData → Env → Prop), J 0 acc ρ → (∀ k y acc ρ, xs[k]? = some y → J k acc ρ → Wmt Φ Mu mp t ifs elt cl y ρ fun ds ρ1 => J (k + 1) (acc ++ ds) ρ1) → (∀ out ρ, J xs.length (acc ++ out) ρ → Q out ρ) → Wl Φ Mu mp elt (.more t it ifs cl) xs ρ Q := by
    intro xs
    induction xs with
    | nil =>
      intro ρ J acc Q h0 hs hd
      exact Wl_nil2.mpr (hd [] ρ (by rwa [List.append_nil]))
    | cons y ys ih =>
      intro ρ J acc Q h0 hs hd
      rw [Wl_cons2']
      refine (hs 0 y acc ρ rfl h0).mono fun ds ρ1 h1 => ?_
      exact ih ρ1 (fun k => J (k + 1)) (acc ++ ds) _ h1 (fun k y acc ρ hk hj => hs (k + 1) y acc ρ hk hj) (fun out ρ h2 => hd _ _ (by rwa [← List.append_assoc]))
  exact main xs ρ J [] Q h0 hs (by simpa using hd)
/-- an outer clause whose turns leave the rest as it is -/
theorem Wk_more {Q : Res → Env → Prop} {it : It} {xs : List PyData} (g : PyData → List PyData) (hs : ∀ y ∈ xs, ∀ os, os.length = own.length → Wmt Φ Mu mp t ifs elt cl y (fill ρ own os) fun ds ρ1 => ds = g y ∧ ∃ os', os'.length = own.length ∧ ρ1 = fill ρ own os')
    (hd : szOk (xs.flatMap g).length = true ∧ Q (.own (.list (xs.flatMap g))) ρ) : Wk Φ Mu mp own elt (.more t it ifs cl) xs ρ Q := by
  unfold Wk
  refine Wl_ix2 (fun k acc ρ1 => acc = (xs.take k).flatMap g ∧ ∃ os, os.length = own.length ∧ ρ1 = fill ρ own os) ⟨by simp, _, by simp, wipe_fill own⟩ ?_ ?_
  · rintro k y acc ρ1 hk ⟨ha, os, hl, hr⟩
    subst hr
    refine (hs y (List.mem_of_getElem? hk) os hl).mono ?_
    rintro ds ρ2 ⟨h1, os', h2, h3⟩
    refine ⟨?_, os', h2, h3⟩
    subst ha h1
    rw [List.take_add_one, hk]
    simp
  · rintro out ρ1 ⟨ha, os, hl, hr⟩
    subst hr
    rw [List.take_length] at ha
    subst ha
    rw [back_fill own os]
    exact hd
theorem Wk_more2 {Q : Res → Env → Prop} {it : It} {xs : List PyData} {i j : Nat} (g : PyData → List PyData) (hs : ∀ y ∈ xs, ∀ o o2, Wmt Φ Mu mp t ifs elt cl y (fill ρ [i, j] [o, o2]) fun ds ρ1 => ds = g y ∧ ∃ p p2, ρ1 = fill ρ [i, j] [p, p2])
    (hd : szOk (xs.flatMap g).length = true ∧ Q (.own (.list (xs.flatMap g))) ρ) : Wk Φ Mu mp [i, j] elt (.more t it ifs cl) xs ρ Q := by
  refine Wk_more g (fun y hy os hl => ?_) hd
  match os, hl with
  | [o, o2], _ => exact (hs y hy o o2).mono fun ds ρ1 ⟨h1, p, p2, h2⟩ => ⟨h1, [p, p2], rfl, h2⟩
/-- the inner clause, of one slot -/
theorem Wl_in1 {Q : List PyData → Env → Prop} {it : It} {xs : List PyData} {j : Nat} {o0 : Option (Bool × PyData)} (g : PyData → List PyData) (hs : ∀ y ∈ xs, ∀ o, Wct Φ Mu mp t ifs elt y (fill ρ [j] [o]) fun ds ρ1 => ds = g y ∧ ∃ p, ρ1 = fill ρ [j] [p])
    (h0 : ρ = fill ρ [j] [o0]) (k : ∀ p, Q (xs.flatMap g) (fill ρ [j] [p])) : Wl Φ Mu mp elt (.last t it ifs) xs ρ Q := by
  refine Wl_ix (fun k acc ρ1 => acc = (xs.take k).flatMap g ∧ ∃ o, ρ1 = fill ρ [j] [o]) ⟨by simp, _, h0⟩ ?_ ?_
  · rintro k y acc ρ1 hk ⟨ha, o, hr⟩
    subst hr
    refine (hs y (List.mem_of_getElem? hk) o).mono ?_
    rintro ds ρ2 ⟨h1, p, h3⟩
    refine ⟨?_, p, h3⟩
    subst ha h1
    rw [List.take_add_one, hk]
    simp
  · rintro out ρ1 ⟨ha, o, hr⟩
    subst hr
    rw [List.take_length] at ha
    subst ha
    exact k o
/-- by computing, where nothing is called -/
theorem Wss_run {s : Sts} {Q : Fl → Env → Prop} {fl : Fl} (h : (execs Φ Mu mp s ρ).map (·.1) = some fl) (k : ∀ ρ', Q fl ρ') : Wss Φ Mu mp s ρ Q := by
  obtain ⟨⟨f2, ρ2⟩, h1, h2⟩ := Option.map_eq_some_iff.mp h
  subst h2
  exact ⟨_, _, h1, k _⟩
end
theorem knx_mono {fl : Fl} {ρ : Env} {A B : Env → Prop} {Q : Fl → Env → Prop} (h : knx fl ρ A Q) (k : ∀ ρ, A ρ → B ρ) : knx fl ρ B Q := by
  cases fl with
  | nx => exact k _ h
  | _ => exact h
/-- both ways lead to R -/
theorem kite_cut {Φ : Ph} {Mu : Nat → List Bool} {mp : List Nat} {ρ : Env} {b : Bool} {p q : Sts} {A : Env → Prop} {Q : Fl → Env → Prop} (R : Env → Prop) (h1 : kite b (fun ρ => Wss Φ Mu mp p ρ fun fl ρ1 => knx fl ρ1 R Q) (fun ρ => Wss Φ Mu mp q ρ fun fl ρ1 => knx fl ρ1 R Q) ρ)
    (h2 : ∀ ρ1, R ρ1 → A ρ1) : kite b (fun ρ => Wss Φ Mu mp p ρ fun fl ρ1 => knx fl ρ1 A Q) (fun ρ => Wss Φ Mu mp q ρ fun fl ρ1 => knx fl ρ1 A Q) ρ :=
  ⟨fun e => (h1.1 e).mono fun _ _ h => knx_mono h h2, fun e => (h1.2 e).mono fun _ _ h => knx_mono h h2⟩
/-- no turn leaves the loop -/
theorem Wf_ixF {Φ : Ph} {Mu : Nat → List Bool} {mp : List Nat} {ρ : Env} {t : Tg} {p : Sts} {Q : Fl → Env → Prop} {xs : List PyData} (J : Nat → Env → Prop) (h0 : J 0 ρ) (hs : ∀ k y ρ, xs[k]? = some y → J k ρ → Wt Φ Mu mp t p y ρ (J (k + 1)) fun _ _ => False) (hd : ∀ ρ, J xs.length ρ → Q .nx ρ) : Wf Φ Mu mp t p xs ρ Q := by
  refine Wf_ix J h0 (fun k y ρ hk hj => ?_) hd
  refine kd.mono (hs k y ρ hk hj) fun ρ1 h2 => Wss.mono h2 fun fl ρ2 h3 => ?_
  cases fl with
  | nx => exact h3
  | ct => exact h3
  | br => exact h3.elim
  | rt v => exact h3.elim
theorem Wf_rngF {Φ : Ph} {Mu : Nat → List Bool} {mp : List Nat} {ρ : Env} {t : Tg} {p : Sts} {Q : Fl → Env → Prop} {n : Int} (J : Nat → Env → Prop) (h0 : J 0 ρ) (hs : ∀ k : Nat, ∀ ρ, (k : Int) < n → J k ρ → Wt Φ Mu mp t p (.int k) ρ (J (k + 1)) fun _ _ => False) (hd : ∀ ρ, J n.toNat ρ → Q .nx ρ) : Wf Φ Mu mp t p (rngL 0 n) ρ Q := by
  refine Wf_ixF J h0 (fun k y ρ hk hj => ?_) (fun ρ h => hd ρ (by rwa [rngL_len, Int.sub_zero] at h))
  obtain ⟨e, hl⟩ := rngL_getW hk
  rw [Int.zero_add] at e hl
  subst e
  exact hs k ρ hl hj
section
variable {Φ : Ph} {Mu : Nat → List Bool} {mp : List Nat} {ρ : Env} {t : Tg} {elt : Ex} {ifs : Exs} {cl : Cl} {own : List Nat}
theorem Wk_ix2 {Q : Res → Env → Prop} {it : It} {xs : List PyData} (J : Nat → List PyData → Env → Prop) (h0 : J 0 [] (wipe ρ own)) (hs : ∀ k y acc ρ, xs[k]? = some y → J k acc ρ → Wmt Φ Mu mp t ifs elt cl y ρ fun ds ρ1 => J (k + 1) (acc ++ ds) ρ1)
    (hd : ∀ out ρ', J xs.length out ρ' → szOk out.length = true ∧ Q (.own (.list out)) (back ρ ρ' own)) : Wk Φ Mu mp own elt (.more t it ifs cl) xs ρ Q := Wl_ix2 J h0 hs hd
/-- an inner clause over a list of a slot: the slot may be fixed on the way -/
theorem Wk_val2 {Q : Res → Env → Prop} {it : It} {xs : List PyData} {i j m : Nat} {L : List PyData} (g : PyData → List PyData) (hm : ρ[m]? = some (some (true, .list L))) (hi : m ≠ i) (hj : m ≠ j)
    (hs : ∀ y ∈ xs, ∀ b o o2, Wmt Φ Mu mp t ifs elt cl y (fill ρ [m, i, j] [some (b, .list L), o, o2]) fun ds ρ1 => ds = g y ∧ ∃ b p p2, ρ1 = fill ρ [m, i, j] [some (b, .list L), p, p2])
    (hd : szOk (xs.flatMap g).length = true ∧ ∀ b, Q (.own (.list (xs.flatMap g))) (ρ.set m (some (b, .list L)))) : Wk Φ Mu mp [i, j] elt (.more t it ifs cl) xs ρ Q := by
  have hlt : m < ρ.length := (List.getElem?_eq_some_iff.mp hm).1
  refine Wk_ix2 (fun k acc ρ1 => acc = (xs.take k).flatMap g ∧ ∃ b o o2, ρ1 = fill ρ [m, i, j] [some (b, .list L), o, o2]) ⟨by simp, true, none, none, ?_⟩ ?_ ?_
  · rw [wipe_fill]
    apply List.ext_getElem?
    intro q
    show ((ρ.set j none).set i none)[q]? = (((ρ.set j none).set i none).set m (some (true, .list L)))[q]?
    by_cases e : m = q
    · subst e
      rw [List.getElem?_set_self (by simpa using hlt), List.getElem?_set_ne (Ne.symm hi), List.getElem?_set_ne (Ne.symm hj), hm]
    · rw [List.getElem?_set_ne e]
  · rintro k y acc ρ1 hk ⟨ha, b, o, o2, hr⟩
    subst hr
    refine (hs y (List.mem_of_getElem? hk) b o o2).mono ?_
    rintro ds ρ2 ⟨h1, b', p, p2, h3⟩
    refine ⟨?_, b', p, p2, h3⟩
    subst ha h1
    rw [List.take_add_one, hk]
    simp
  · rintro out ρ1 ⟨ha, b, o, o2, hr⟩
    subst hr
    rw [List.take_length] at ha
    subst ha
    refine ⟨hd.1, ?_⟩
    have e : back ρ (fill ρ [m, i, j] [some (b, .list L), o, o2]) [i, j] = ρ.set m (some (b, .list L)) := by
      apply List.ext_getElem?
      intro q
      by_cases hq : q < ρ.length
      · rw [back_get _ _ _ _ (by rw [fill_len]; exact hq)]
        show (if q ∈ [i, j] then some ((ρ[q]?).getD none) else (((ρ.set j o2).set i o).set m (some (b, .list L)))[q]?) = _
        split
        · rename_i h
          have : m ≠ q := by
            rintro rfl
            simp at h
            rcases h with h | h
            · exact hi h
            · exact hj h
          rw [List.getElem?_set_ne this, List.getElem?_eq_getElem hq]
          rfl
        · rename_i h
          simp at h
          by_cases e : m = q
          · subst e
            rw [List.getElem?_set_self (by simpa using hq), List.getElem?_set_self hq]
          · rw [List.getElem?_set_ne e, List.getElem?_set_ne e, List.getElem?_set_ne (fun z => h.1 z.symm), List.getElem?_set_ne (fun z => h.2 z.symm)]
      · rw [List.getElem?_eq_none (by rw [back_lenW, fill_len]; omega), List.getElem?_eq_none (by rw [List.length_set]; omega)]
    rw [e]
    exact hd.2 b
end
end MP

namespace MP
open PySem
abbrev sSum : Str := Str.ofString "sum"
abbrev sMax : Str := Str.ofString "max"
abbrev sLate : Str := Str.ofString "late"
theorem lateNe1 : (sSum = sLate) = False := eq_false (by decide)
theorem lateNe2 : (sMax = sLate) = False := eq_false (by decide)
theorem maxNe1 : (sSum = sMax) = False := eq_false (by decide)
theorem sumNe1 : (sMax = sSum) = False := eq_false (by decide)
theorem sumNe2 : (sLate = sSum) = False := eq_false (by decide)
theorem maxNe2 : (sLate = sMax) = False := eq_false (by decide)
theorem szl_0 : szOk 0 = true := by decide
/-- small numbers -/
theorem szl_s {n : Nat} (h : n ≤ 16777216) : szOk n = true := szOk_of h
theorem csD_non : csD .non = .none := rfl
theorem csD_bl {b : Bool} : csD (.bl b) = .bool b := rfl
theorem csD_int {i : Int} : csD (.int i) = .int i := rfl
theorem csD_str {s : String} : csD (.str s) = .str (Str.ofString s) := rfl
theorem csD_emp : csD .emp = .dict [] := rfl
theorem cont_nil {i : Nat} : ([] : List Nat).contains i = false := by simp
theorem cont_s {i j : Nat} {is : List Nat} (h : (i == j) = false) (h2 : is.contains i = false) : (j :: is).contains i = false := by
  rw [List.contains_cons, h, h2]
  rfl
theorem cont_0 {i : Nat} (h : (i == 0) = false) : [0].contains i = false := by
  simp at h
  simp [h]
theorem ixN_0 {n : Nat} : L2.ixN (n + 1) 0 = some 0 := ixN_nat (by decide) (by omega)
theorem ixN_1 {n : Nat} : L2.ixN (n + 2) 1 = some 1 := ixN_nat (by decide) (by omega)
theorem ixN_2 {n : Nat} : L2.ixN (n + 3) 2 = some 2 := ixN_nat (by decide) (by omega)
theorem isT_i {i : Int} {t : Tn} : isT (.int i) t = match t with | .int => true | _ => false := by cases t <;> rfl
theorem isT_b {i : Bool} {t : Tn} : isT (.bool i) t = match t with | .int => true | .bool => true | _ => false := by cases t <;> rfl
theorem isT_n {t : Tn} : isT .none t = false := by cases t <;> rfl
theorem isT_s {i : Str} {t : Tn} : isT (.str i) t = match t with | .str => true | _ => false := by cases t <;> rfl
theorem isT_l {i : List PyData} {t : Tn} : isT (.list i) t = match t with | .list => true | _ => false := by cases t <;> rfl
theorem isT_t {i : List PyData} {t : Tn} : isT (.tuple i) t = match t with | .tuple => true | _ => false := by cases t <;> rfl
theorem isT_d {i : List (PyData × PyData)} {t : Tn} : isT (.dict i) t = match t with | .dict => true | _ => false := by cases t <;> rfl
theorem isNone_n : isNone .none = true := rfl
theorem isNone_b {b : Bool} : isNone (.bool b) = false := rfl
theorem isNone_i {b : Int} : isNone (.int b) = false := rfl
theorem isNone_s {b : Str} : isNone (.str b) = false := rfl
theorem isNone_l {b : List PyData} : isNone (.list b) = false := rfl
theorem isNone_t {b : List PyData} : isNone (.tuple b) = false := rfl
theorem isNone_d {b : List (PyData × PyData)} : isNone (.dict b) = false := rfl
theorem back_nil {ρ0 ρ : Env} : back ρ0 ρ [] = ρ := rfl
theorem back_cons {ρ0 ρ : Env} {v : Nat} {vs : List Nat} : back ρ0 ρ (v :: vs) = (back ρ0 ρ vs).set v ((ρ0[v]?).getD none) := rfl
theorem bors_nil : bors [] = [] := rfl
theorem bors_sh {d : PyData} {rs : List Res} : bors (.sh d :: rs) = bors rs := rfl
theorem bors_own {d : PyData} {rs : List Res} : bors (.own d :: rs) = bors rs := rfl
theorem bors_bor {i : Nat} {rs : List Res} : bors (.bor i :: rs) = i :: bors rs := rfl
theorem repOk_of {l : Nat} {j : Int} (h : l * j.toNat ≤ 16777216) (h1 : j ≤ 16777216) (h2 : -16777216 ≤ j) : (szOk (l * j.toNat) && decide (j < 2 ^ 62) && decide (-(2 ^ 62) ≤ j)) = true := by
  rw [szOk_of h, decide_eq_true (show j < 2 ^ 62 by omega), decide_eq_true (show -(2 ^ 62) ≤ j by omega)]
  rfl
/-! ### a def -/
def MuT (T : List Fn) (g : Nat) : List Bool := ((T[g]?).map (·.mu)).getD []
theorem MuT_of {T : List Fn} {g : Nat} {nm : String} {mu : List Bool} {sl : Nat} {body : Sts} (h : T[g]? = some ⟨nm, mu, sl, body⟩) : MuT T g = mu := by
  unfold MuT
  rw [h]
  rfl
/-- what a def hands back -/
def kend (ix : List Nat) (fl : Fl) (ρ : Env) (Q : Bool × PyData → List PyData → Prop) : Prop := match fl with
  | .rt r => kd (finals ρ ix) fun ds => Q r ds
  | .nx => kd (finals ρ ix) fun ds => Q (false, .none) ds
  | _ => False
theorem kend_rt {ix : List Nat} {r : Bool × PyData} {ρ : Env} {Q : Bool × PyData → List PyData → Prop} : kend ix (.rt r) ρ Q ↔ kd (finals ρ ix) fun ds => Q r ds := Iff.rfl
theorem kend_nx {ix : List Nat} {ρ : Env} {Q : Bool × PyData → List PyData → Prop} : kend ix .nx ρ Q ↔ kd (finals ρ ix) fun ds => Q (false, .none) ds := Iff.rfl
theorem Wc_of {T : List Fn} {n f : Nat} {nm : String} {mu : List Bool} {sl : Nat} {body : Sts} {vs : List (Bool × PyData)} {Q : Bool × PyData → List PyData → Prop} (hT : T[f]? = some ⟨nm, mu, sl, body⟩) (hm : vs.map (·.1) = mu)
    (h : Wss (run T n) (MuT T) (mutIx 0 mu) body (startE sl vs) fun fl ρ => kend (mutIx 0 mu) fl ρ Q) : Wc (run T (n + 1)) f vs Q := by
  obtain ⟨fl, ρ1, e1, k⟩ := h
  have e2 : execs (run T n) (fun g => ((T[g]?).map (·.mu)).getD []) (mutIx 0 mu) body (startE sl vs) = some (fl, ρ1) := e1
  cases fl with
  | nx =>
    obtain ⟨ds, e3, k⟩ := k
    exact ⟨_, _, by unfold run; simp only [hT, if_pos hm, e2, e3], k⟩
  | br => exact k.elim
  | ct => exact k.elim
  | rt r =>
    obtain ⟨ds, e3, k⟩ := k
    exact ⟨_, _, by unfold run; simp only [hT, if_pos hm, e2, e3], k⟩
theorem startE_nil : startE 0 [] = [] := rfl
theorem startE_n {n : Nat} : startE (n + 1) [] = none :: startE n [] := rfl
theorem startE_c {n : Nat} {v : Bool × PyData} {vs : List (Bool × PyData)} : startE (n + 1) (v :: vs) = some v :: startE n vs := by
  unfold startE
  rw [List.length_cons, Nat.add_sub_add_right]
  rfl
theorem mutIx_nil {k : Nat} : mutIx k [] = [] := rfl
theorem mutIx_t {k : Nat} {r : List Bool} : mutIx k (true :: r) = k :: mutIx (k + 1) r := rfl
theorem mutIx_f {k : Nat} {r : List Bool} : mutIx k (false :: r) = mutIx (k + 1) r := rfl
theorem ncI {n : Nat} : ((no_index (OfNat.ofNat n) : Nat) : Int) = no_index (OfNat.ofNat n) := rfl
/-- a call, by what is known of it -/
theorem call_ok {T : List Fn} {Φ : Ph} {f : Nat} {mu : List Bool} {rs : List Res} {ρ : Env} {vs : List (Bool × PyData)} {Q : Res → Env → Prop} {P : Bool × PyData → List PyData → Prop} (hM : MuT T f = mu) (hs : Wc Φ f vs P)
    (hok : (argOk mu rs && (decide (mutPl mu rs).Nodup && (mutPl mu rs).all fun i => !(bors (fz mu rs)).contains i)) = true) (hv : argVals ρ mu rs = some vs)
    (k : ∀ r fin, P r fin → kafter mu rs ρ Q r fin) : kcall Φ (MuT T f) f rs ρ Q := by
  subst hM
  refine ⟨hok, ?_⟩
  rw [hv, kd_some]
  exact hs.mono k

local macro_rules | `(tactic| walk_at "mp") => `(tactic| simp only [We_var, We_cst, We_glb, Wes_nil, Wes_cons, We_op, We_and, We_or, Wb_last, Wb_and, Wb_or, We_ite, We_chain, We_slice, We_call, We_meth, We_comp1, We_comp2, Wi_val, Wi_rng, Wi_enm, Wi_zip, Wss_nil, Wss_cons, Ws_exp, Ws_asg, Ws_par, Ws_ret, Ws_ret0, Ws_pass, Ws_brk, Ws_cont, Ws_ite, Ws_for, Ws_while, Ws_set, Ws_aug, Ws_aset, Ws_forO, kd_sub, kd_subO, Wb_nil, ↓We_var, ↓We_cst, ↓We_glb, ↓Wes_nil, ↓Wes_cons, ↓We_op, ↓We_and, ↓We_or, ↓Wb_last, ↓Wb_and, ↓Wb_or, ↓We_ite, ↓We_chain, ↓We_slice, ↓We_call, ↓We_meth, ↓We_comp1, ↓We_comp2, ↓Wi_val, ↓Wi_rng, ↓Wi_enm, ↓Wi_zip, ↓Wss_nil, ↓Wss_cons, ↓Ws_exp, ↓Ws_asg, ↓Ws_par, ↓Ws_ret, ↓Ws_ret0, ↓Ws_pass, ↓Ws_brk, ↓Ws_cont, ↓Ws_ite, ↓Ws_for, ↓Ws_while, ↓Ws_set, ↓Ws_aug, ↓Ws_aset, ↓Ws_forO, ↓Wb_nil,
  kd_some, kd_map, kd_bind, kb_bool, kite_t, kite_f, kite_n, knx_nx, knx_ct, knx_br, knx_rt, kturn_nx, kturn_ct, kturn_br, kturn_rt, slR_t, slR_f, slB_t, valOf_sh, valOf_own, valOf_borC, valsOf_nil, valsOf_cons, fzE_t, fzE_f, frzR_sh, frzR_own, frzR_bor, frzRs_nil, frzRs_cons, fixB_sh, fixB_own, fixB_bor, fxB_t, fxB_f, mkR_f, mkR_t, asSeq_l, asSeq_t,
  asgV_sh, asgV_own, asgV_bor, asgR_var, asgR_tup, asgT_var, asgT_t, asgT_l, asgTs_nil, asgTs_cons, putAll_nil, putAll_cons, wipe_nil, wipe_cons, fxR_nil, fxR_sh, fxR_own, fxR_bor, notB_nil, notB_sh, notB_own, notB_bor, fz_nil, fz_t, fz_f, mutPl_nil, mutPl_t, mutPl_f, finals_nil, finals_cons, partI_nil, partI_int, stE_tup, stE_lst, stE_bin_, stE_neg_, stE_not_, stE_cmp_, stE_isN_, stE_nisN_, stE_isB_, stE_len_, stE_isa_, stE_int_, stE_tuple_, stE_list_, stE_sum_, stE_sorted_, stE_all_, stE_any_, stE_repr_, stE_min1_, stE_max1_, stE_min2_, stE_max2_, stE_lrng_, stE_trng_, stE_idx_, stE_index_, asgPs_nil, asgPs_var, asgPs_tup, kret_sh, kret_own, kret_bor, kset_eq, kset_v, kaset_eq, kaset_v, kaug, opAug_add, opAug_sub, kd_augT, Wt, Wct, Wmt, denF_last, denF_more, fill_nil, fill_cons,
  Wo_add, Wo_addL, Wo_addT, Wo_sub, Wo_mul, Wo_fdiv, Wo_mod, Wo_pow, Wo_mulT, Wo_mulL, Wo_neg, Wo_not, Wo_int, Wo_intB, Wo_lt, Wo_le, Wo_gt, Wo_ge, Wo_eq, Wo_ne, Wo_eqS, Wo_neS, Wo_eqT, Wo_neT, Wo_eqL, Wo_neL, Wo_eqB, Wo_neB, Wo_inL, Wo_inT, Wo_niL, Wo_niT, Wo_isN, Wo_nisN, Wo_lenL, Wo_lenT, Wo_isa, Wo_tupleL, Wo_tupleT, Wo_listL, Wo_listT, Wo_sum, Wo_sumT, Wo_sortedL, Wo_sortedT, Wo_all, Wo_any, Wo_repr, Wo_max1, Wo_min1, Wo_min2, Wo_max2, Wo_lrng, Wo_trng, Wo_idxL, Wo_idxT, Wo_index, Wo_is, Wo_isnt, intsOf_ints, Wo_tup, Wo_lst,
  atD_0, atD_1, atD_2, atD_3, atD_4, kd_rng1, kd_rng2, cmp_lt, cmp_le, cmp_gt, cmp_ge, cmp_eq, seqs_nil, seqs_cons, zipL_2, kd_zip2, sl_l, sl_t, sl_rl, sl_rt, mtS_append, mtS_extend, szl_0, szl_s, csD_non, csD_bl, csD_int, csD_str, csD_emp, cont_nil, cont_0, ixN_0, ixN_1, ixN_2,
  List.getElem?_cons_zero, List.getElem?_cons_succ, List.set_cons_zero, List.set_cons_succ, Option.bind_some, Option.map_some, List.length_cons, List.length_nil, List.cons_append, List.nil_append, Nat.reduceAdd, ncI, startE_nil, startE_n, startE_c, mutIx_nil, mutIx_t, mutIx_f, kend_rt, kend_nx, true_and, and_true, eq_self, Nat.reduceLeDiff, Nat.reduceLT, Nat.reduceBEq, if_true, if_false, Bool.false_eq_true, reduceIte, decide_true, decide_false, Bool.not_true, Bool.not_false, Bool.and_true, Bool.true_and, Bool.or_true, Bool.or_false, Bool.false_or, Bool.true_or, Bool.and_false, Bool.false_and, Int.reduceLT, Int.reduceLE, Int.reduceEq, Int.reduceNeg, Int.reduceAdd, Int.reduceSub, Int.reduceMul, Int.reduceToNat, isT_i, isT_b, isT_n, isT_s, isT_l, isT_t, isT_d, List.any_cons, List.any_nil, bors_bor, cont_s, kafter_tf, kafter_own, kafter_at, kafter_no, kafter_sh, borsN_nil, borsN_sh, borsN_own, allN_nil, allN_f, isAt_n, isAt_b, isAt_i, isAt_s, isAt_l, isAt_t, back_nil, back_cons, Option.getD_some, Option.getD_none, List.map_cons, List.map_nil, lateNe1, lateNe2, maxNe1, maxNe2, sumNe1, sumNe2, isNone_n, List.isEmpty_nil, List.isEmpty_cons, List.isEmpty_map, beq_self_eq_true, Bool.true_beq, Bool.false_beq, isNone_b, isNone_i, isNone_s, isNone_l, isNone_t, isNone_d])
local macro_rules | `(tactic| walk_at "ms") => `(tactic| repeat (first | with_reducible refine And.intro (szOk_of (by omega)) ?_ | with_reducible refine And.intro (repOk_of (by omega) (by omega) (by omega)) ?_ | with_reducible refine And.intro (rngOk_of (by omega) (by omega) (by omega) (by omega) (by omega)) ?_ | with_reducible refine And.intro (mulOk_r (by omega) (by omega)) ?_ | with_reducible refine And.intro (mulOk_l (by omega) (by omega)) ?_ | with_reducible refine And.intro (mulOk_big (by omega) (by omega) (by omega) (by omega)) ?_ | with_reducible refine And.intro (divOk_big (by omega) (by omega)) ?_ | with_reducible refine And.intro (powOk_of (by omega) (by omega) (by omega) (by omega)) ?_))
local macro_rules | `(tactic| walk_at "mq") => `(tactic| ((try (walk_at "mp")); walk_at "ms"))

def fnOpen : Fn := ⟨"_law_open", [false], 4,
  (.cons (.asg (.var 1) (.op .list (.cons (.slice (.var 0) .nil (.cons (.cst (.int 12)) .nil) none) .nil)))
  (.cons (.for (.tup (.cons (.var 2) (.cons (.var 3) .nil))) (.enm (.slice (.var 0) (.cons (.cst (.int 12)) .nil) (.cons (.cst (.int 63)) .nil) none))
    (.cons (.set 1 (.op (.bin .mod) (.cons (.op .int (.cons (.var 2) .nil)) (.cons (.cst (.int 12)) .nil))) (.op (.bin .add) (.cons (.op .idx (.cons (.var 1) (.cons (.op (.bin .mod) (.cons (.op .int (.cons (.var 2) .nil)) (.cons (.cst (.int 12)) .nil))) .nil))) (.cons (.var 3) .nil))))
    .nil))
  (.cons (.ret (.op .lst (.cons (.var 1) (.cons (.cst (.int 0)) (.cons (.cst (.int 0)) .nil)))))
  .nil)))⟩
def fnSpread : Fn := ⟨"_law_spread", [false, false], 6,
  (.cons (.ite (.op (.cmp .ge) (.cons (.var 0) (.cons (.op (.bin .pow) (.cons (.cst (.int 10)) (.cons (.cst (.int 18)) .nil))) .nil)))
    (.cons (.ret (.var 0))
    .nil)
    .nil)
  (.cons (.asg (.var 2) (.op .lst (.cons (.cst (.int 2147483629)) (.cons (.cst (.int 2147483587)) (.cons (.cst (.int 2147483579)) (.cons (.cst (.int 2147483563)) (.cons (.cst (.int 2147483549)) (.cons (.cst (.int 2147483543)) (.cons (.cst (.int 2147483497)) (.cons (.cst (.int 2147483489)) .nil))))))))))
  (.cons (.asg (.var 2) (.op (.bin .add) (.cons (.var 2) (.cons (.op .lst (.cons (.cst (.int 2147483477)) (.cons (.cst (.int 2147483423)) (.cons (.cst (.int 2147483399)) (.cons (.cst (.int 2147483353)) (.cons (.cst (.int 2147483323)) .nil)))))) .nil))))
  (.cons (.asg (.var 3) (.op (.bin .add) (.cons (.op (.bin .add) (.cons (.op (.bin .mul) (.cons (.op (.bin .mod) (.cons (.op .int (.cons (.var 0) .nil)) (.cons (.cst (.int 1000000007)) .nil))) (.cons (.op (.bin .add) (.cons (.op (.bin .mul) (.cons (.cst (.int 2)) (.cons (.var 1) .nil))) (.cons (.cst (.int 69069)) .nil))) .nil))) (.cons (.op (.bin .mul) (.cons (.var 1) (.cons (.cst (.int 40503)) .nil))) .nil))) (.cons (.cst (.int 977)) .nil))))
  (.cons (.asg (.var 3) (.op (.bin .mod) (.cons (.op .int (.cons (.op (.bin .pow) (.cons (.var 3) (.cons (.cst (.int 3)) .nil))) .nil)) (.cons (.op .idx (.cons (.var 2) (.cons (.op (.bin .mod) (.cons (.op .int (.cons (.var 1) .nil)) (.cons (.cst (.int 13)) .nil))) .nil))) .nil))))
  (.cons (.asg (.var 4) (.op (.bin .mod) (.cons (.op .int (.cons (.op (.bin .pow) (.cons (.op (.bin .add) (.cons (.op (.bin .add) (.cons (.op (.bin .mul) (.cons (.var 3) (.cons (.op (.bin .add) (.cons (.var 1) (.cons (.cst (.int 3)) .nil))) .nil))) (.cons (.op (.bin .mod) (.cons (.op .int (.cons (.var 0) .nil)) (.cons (.cst (.int 65537)) .nil))) .nil))) (.cons (.cst (.int 5)) .nil))) (.cons (.cst (.int 5)) .nil))) .nil)) (.cons (.op .idx (.cons (.var 2) (.cons (.op (.bin .mod) (.cons (.op .int (.cons (.op (.bin .add) (.cons (.var 1) (.cons (.cst (.int 5)) .nil))) .nil)) (.cons (.cst (.int 13)) .nil))) .nil))) .nil))))
  (.cons (.asg (.var 5) (.op (.bin .mod) (.cons (.op .int (.cons (.op (.bin .pow) (.cons (.op (.bin .add) (.cons (.op (.bin .add) (.cons (.var 4) (.cons (.op (.bin .mod) (.cons (.op .int (.cons (.var 3) .nil)) (.cons (.cst (.int 1009)) .nil))) .nil))) (.cons (.var 1) .nil))) (.cons (.cst (.int 3)) .nil))) .nil)) (.cons (.op .idx (.cons (.var 2) (.cons (.op (.bin .mod) (.cons (.op .int (.cons (.op (.bin .add) (.cons (.var 1) (.cons (.cst (.int 7)) .nil))) .nil)) (.cons (.cst (.int 13)) .nil))) .nil))) .nil))))
  (.cons (.ret (.op (.bin .add) (.cons (.op (.bin .mul) (.cons (.op (.bin .add) (.cons (.op (.bin .mul) (.cons (.var 3) (.cons (.cst (.int 2147483647)) .nil))) (.cons (.var 4) .nil))) (.cons (.cst (.int 2147483647)) .nil))) (.cons (.var 5) .nil))))
  .nil))))))))⟩
def fnTake (s : Nat) : Fn := ⟨"_law_take", [true, false], 5,
  (.cons (.ite (.op (.cmp .lt) (.cons (.op .idx (.cons (.var 0) (.cons (.cst (.int 2)) .nil))) (.cons (.var 1) .nil)))
    (.cons (.asg (.var 3) (.op .idx (.cons (.var 0) (.cons (.cst (.int 1)) .nil))))
    (.cons (.asg (.var 4) (.cst (.int 0)))
    (.cons (.ite (.op (.cmp .lt) (.cons (.var 3) (.cons (.op .len (.cons (.op .idx (.cons (.var 0) (.cons (.cst (.int 0)) .nil))) .nil)) .nil)))
      (.cons (.asg (.var 4) (.op .idx (.cons (.op .idx (.cons (.var 0) (.cons (.cst (.int 0)) .nil))) (.cons (.var 3) .nil))))
      .nil)
      (.cons (.ite (.op (.cmp .gt) (.cons (.op .len (.cons (.op .idx (.cons (.var 0) (.cons (.cst (.int 0)) .nil))) .nil)) (.cons (.cst (.int 0)) .nil)))
        (.cons (.asg (.var 4) (.op (.bin .mod) (.cons (.op .int (.cons (.op .idx (.cons (.op .idx (.cons (.var 0) (.cons (.cst (.int 0)) .nil))) (.cons (.op (.bin .mod) (.cons (.op .int (.cons (.op (.bin .add) (.cons (.op (.bin .mul) (.cons (.var 3) (.cons (.cst (.int 5)) .nil))) (.cons (.cst (.int 3)) .nil))) .nil)) (.cons (.op .len (.cons (.op .idx (.cons (.var 0) (.cons (.cst (.int 0)) .nil))) .nil)) .nil))) .nil))) .nil)) (.cons (.op (.bin .add) (.cons (.op (.bin .pow) (.cons (.cst (.int 10)) (.cons (.cst (.int 17)) .nil))) (.cons (.var 3) .nil))) .nil))))
        .nil)
        .nil)
      .nil))
    (.cons (.set 0 (.cst (.int 1)) (.op (.bin .add) (.cons (.var 3) (.cons (.cst (.int 1)) .nil))))
    (.cons (.set 0 (.cst (.int 2)) (.call s (.cons (.var 4) (.cons (.var 3) .nil))))
    .nil)))))
    .nil)
  (.cons (.asg (.var 2) (.op (.bin .mod) (.cons (.op .int (.cons (.op .idx (.cons (.var 0) (.cons (.cst (.int 2)) .nil))) .nil)) (.cons (.var 1) .nil))))
  (.cons (.set 0 (.cst (.int 2)) (.op (.bin .fdiv) (.cons (.op .idx (.cons (.var 0) (.cons (.cst (.int 2)) .nil))) (.cons (.var 1) .nil))))
  (.cons (.ret (.var 2))
  .nil))))⟩
def fnSame (s : Nat) : Fn := ⟨"_law_same", [false, false], 4,
  (.cons (.ite (.or (.cons (.op .isN (.cons (.var 1) .nil)) (.cons (.op .isN (.cons (.var 0) .nil)) .nil)))
    (.cons (.ret (.and (.cons (.op .isN (.cons (.var 1) .nil)) (.cons (.op .isN (.cons (.var 0) .nil)) .nil))))
    .nil)
    .nil)
  (.cons (.ite (.or (.cons (.op (.isa [.bool]) (.cons (.var 1) .nil)) (.cons (.op (.isa [.bool]) (.cons (.var 0) .nil)) .nil)))
    (.cons (.ret (.and (.cons (.op (.isa [.bool]) (.cons (.var 1) .nil)) (.cons (.op (.isa [.bool]) (.cons (.var 0) .nil)) (.cons (.op (.cmp .eq) (.cons (.var 0) (.cons (.var 1) .nil))) .nil)))))
    .nil)
    .nil)
  (.cons (.ite (.op (.isa [.int, .str]) (.cons (.var 1) .nil))
    (.cons (.ite (.op (.cmp .ne) (.cons (.op (.isa [.int]) (.cons (.var 0) .nil)) (.cons (.op (.isa [.int]) (.cons (.var 1) .nil)) .nil)))
      (.cons (.ret (.cst (.bl false)))
      .nil)
      .nil)
    (.cons (.ret (.and (.cons (.op (.isa [.int, .str]) (.cons (.var 0) .nil)) (.cons (.op (.cmp .eq) (.cons (.var 0) (.cons (.var 1) .nil))) .nil))))
    .nil))
    .nil)
  (.cons (.ite (.or (.cons (.op (.cmp .ne) (.cons (.op (.isa [.tuple]) (.cons (.var 1) .nil)) (.cons (.op (.isa [.tuple]) (.cons (.var 0) .nil)) .nil))) (.cons (.op (.cmp .ne) (.cons (.op (.isa [.list]) (.cons (.var 1) .nil)) (.cons (.op (.isa [.list]) (.cons (.var 0) .nil)) .nil))) .nil)))
    (.cons (.ret (.cst (.bl false)))
    .nil)
    .nil)
  (.cons (.ite (.op (.cmp .ne) (.cons (.op .len (.cons (.var 0) .nil)) (.cons (.op .len (.cons (.var 1) .nil)) .nil)))
    (.cons (.ret (.cst (.bl false)))
    .nil)
    .nil)
  (.cons (.ret (.op (.cmp .nin) (.cons (.cst (.bl false)) (.cons (.comp [2, 3] (.call s (.cons (.var 2) (.cons (.var 3) .nil))) (.last (.tup (.cons (.var 2) (.cons (.var 3) .nil))) (.zip false (.cons (.var 0) (.cons (.var 1) .nil))) .nil)) .nil))))
  .nil))))))⟩
def fnOneOf (t : Nat) : Fn := ⟨"_law_one_of", [true, false], 2,
  (.cons (.ret (.op .idx (.cons (.var 1) (.cons (.call t (.cons (.var 0) (.cons (.op .len (.cons (.var 1) .nil)) .nil))) .nil))))
  .nil)⟩
/-- the primes -/
abbrev primes : List Int := [2147483629, 2147483587, 2147483579, 2147483563, 2147483549, 2147483543, 2147483497, 2147483489, 2147483477, 2147483423, 2147483399, 2147483353, 2147483323]
theorem prime_at {k : Nat} (h : k < 13) : ∃ p : Int, (primes.map PyData.int)[k]? = some (.int p) ∧ 0 < p ∧ p < 2147483648 := by
  match k, h with
  | 0, _ | 1, _ | 2, _ | 3, _ | 4, _ | 5, _ | 6, _ | 7, _ | 8, _ | 9, _ | 10, _ | 11, _ | 12, _ => exact ⟨_, rfl, by decide, by decide⟩
abbrev primesD : List PyData := [.int 2147483629, .int 2147483587, .int 2147483579, .int 2147483563, .int 2147483549, .int 2147483543, .int 2147483497, .int 2147483489, .int 2147483477, .int 2147483423, .int 2147483399, .int 2147483353, .int 2147483323]
theorem prime_atD (k : Int) (h0 : 0 ≤ k) (h : k < 13) : ∃ p : Int, atD primesD k = some (.int p) ∧ 0 < p ∧ p < 2147483648 := by
  obtain ⟨n, rfl⟩ := Int.eq_ofNat_of_zero_le h0
  have hn : n < 13 := by omega
  rw [atD_ofNat]
  match n, hn with
  | 0, _ | 1, _ | 2, _ | 3, _ | 4, _ | 5, _ | 6, _ | 7, _ | 8, _ | 9, _ | 10, _ | 11, _ | 12, _ => exact ⟨_, rfl, by decide, by decide⟩
theorem mod_gen (x p : Int) (h : 0 < p) (h1 : p < 2147483648) : ∃ z, x % p = z ∧ 0 ≤ z ∧ z < 2147483648 := ⟨_, rfl, Int.emod_nonneg _ (by omega), Int.lt_trans (Int.emod_lt_of_pos _ h) h1⟩
theorem mul_gen (x y A B : Int) (h : 0 ≤ x) (h1 : x ≤ A) (h2 : 0 ≤ y) (h3 : y ≤ B) : ∃ z, x * y = z ∧ 0 ≤ z ∧ z ≤ A * B := ⟨_, rfl, Int.mul_nonneg h h2, Int.mul_le_mul h1 h3 h2 (Int.le_trans h h1)⟩
theorem spread_ok {T : List Fn} {f : Nat} (hT : T[f]? = some fnSpread) (n : Nat) (c a : Int) (h0 : 0 ≤ a) (h1 : a < 1048576) : Wc (run T (n + 1)) f [(false, .int c), (false, .int a)] fun r fin => (∃ z : Int, r = (false, .int z)) ∧ fin = [] := by
  refine Wc_of hT rfl ?_
  walk_at "mq"
  refine kite_d (fun h => ?_) (fun h => ?_)
  · walk_at "mq"
    exact ⟨_, rfl⟩
  · walk_at "mq"
    obtain ⟨z, e, hz0, hz1⟩ := mul_gen (c % 1000000007) (2 * a + 69069) 1000000007 2166221 (by omega) (by omega) (by omega) (by omega)
    rw [e]
    walk_at "ms"
    obtain ⟨p, e, hp0, hp1⟩ := prime_atD (a % 13) (by omega) (by omega)
    rw [e]
    walk_at "mq"
    obtain ⟨one, e, ho0, ho1⟩ := mod_gen ((z + a * 40503 + 977) ^ 3) p hp0 hp1
    rw [e]
    walk_at "ms"
    obtain ⟨z, e, hz0, hz1⟩ := mul_gen one (a + 3) 2147483648 1048579 (by omega) (by omega) (by omega) (by omega)
    rw [e]
    walk_at "ms"
    obtain ⟨p, e, hp0, hp1⟩ := prime_atD ((a + 5) % 13) (by omega) (by omega)
    rw [e]
    walk_at "mq"
    obtain ⟨two, e, ht0, ht1⟩ := mod_gen ((z + c % 65537 + 5) ^ 5) p hp0 hp1
    rw [e]
    walk_at "ms"
    obtain ⟨p, e, hp0, hp1⟩ := prime_atD ((a + 7) % 13) (by omega) (by omega)
    rw [e]
    walk_at "mq"
    exact ⟨_, rfl⟩
/-- a pen that has told at most so many cells -/
def Pen (k : Int) (d : PyData) : Prop := ∃ (cs : List Int) (a v : Int), d = .list [.list (cs.map .int), .int a, .int v] ∧ 0 ≤ a ∧ a ≤ k ∧ cs.length ≤ 12
theorem Pen.mono {k m : Int} {d : PyData} (h : Pen k d) (hk : k ≤ m) : Pen m d := by
  obtain ⟨cs, a, v, e, h0, h1, h2⟩ := h
  exact ⟨cs, a, v, e, h0, by omega, h2⟩
theorem atD_ints {cs : List Int} {i : Int} (h0 : 0 ≤ i) (h : i < cs.length) : ∃ z, atD (cs.map .int) i = some (.int z) := by
  obtain ⟨n, rfl⟩ := Int.eq_ofNat_of_zero_le h0
  rw [atD_ofNat, List.getElem?_map, List.getElem?_eq_getElem (by omega)]
  exact ⟨_, rfl⟩
def S_spread (T : List Fn) (f : Nat) : Prop := MuT T f = [false, false] ∧ ∀ (n : Nat) (c a : Int), 0 ≤ a → a < 1048576 → Wc (run T (n + 1)) f [(false, .int c), (false, .int a)] fun r fin => (∃ z : Int, r = (false, .int z)) ∧ fin = []
def S_take (T : List Fn) (f : Nat) : Prop := MuT T f = [true, false] ∧ ∀ (n : Nat) (k : Int) (p : PyData) (m : Int), Pen k p → k < 1000000 → 0 < m → m < 100000000000000000000000000000000000000000000000000 → Wc (run T (n + 2)) f [(true, p), (false, .int m)] fun r fin => ∃ z p', r = (false, .int z) ∧ fin = [p'] ∧ 0 ≤ z ∧ z < m ∧ Pen (k + 1) p'
theorem spread_S {T : List Fn} {f : Nat} (h : T[f]? = some fnSpread) : S_spread T f := ⟨MuT_of h, fun n c a h0 h1 => spread_ok h n c a h0 h1⟩
theorem take_end {v m : Int} (hm : 0 < m) : 0 ≤ v % m ∧ v % m < m := ⟨Int.emod_nonneg _ (by omega), Int.emod_lt_of_pos _ hm⟩
theorem take_ok {T : List Fn} {t s : Nat} (hT : T[t]? = some (fnTake s)) (hS : S_spread T s) (n : Nat) {k : Int} {p : PyData} (hp : Pen k p) (hk : k < 1000000) {m : Int} (hm : 0 < m) (hm2 : m < 100000000000000000000000000000000000000000000000000) :
    Wc (run T (n + 2)) t [(true, p), (false, .int m)] fun r fin => ∃ z p', r = (false, .int z) ∧ fin = [p'] ∧ 0 ≤ z ∧ z < m ∧ Pen (k + 1) p' := by
  obtain ⟨cs, a, v, rfl, ha0, ha1, hcl⟩ := hp
  refine Wc_of hT rfl ?_
  walk_at "mq"
  refine kite_d (fun h => ?_) (fun h => ?_)
  · walk_at "mq"
    refine kite_d (fun h2 => ?_) (fun h2 => ?_)
    · walk_at "mq"
      rw [List.length_map] at h2
      obtain ⟨z, e⟩ := atD_ints ha0 h2
      rw [e]
      walk_at "mq"
      refine call_ok hS.1 (hS.2 n z a ha0 (by omega)) rfl rfl ?_
      rintro _ _ ⟨⟨v', rfl⟩, rfl⟩
      walk_at "mq"
      exact ⟨_, _, rfl, rfl, (take_end hm).1, (take_end hm).2, cs, a + 1, _, rfl, by omega, by omega, hcl⟩
    · walk_at "mq"
      refine kite_d (fun h3 => ?_) (fun h3 => ?_)
      · walk_at "mq"
        rw [List.length_map] at h3
        rw [List.length_map]
        obtain ⟨z, e⟩ := atD_ints (cs := cs) (i := (a * 5 + 3) % cs.length) (Int.emod_nonneg _ (by omega)) (Int.emod_lt_of_pos _ (by omega))
        rw [e]
        walk_at "mq"
        refine call_ok hS.1 (hS.2 n _ a ha0 (by omega)) rfl rfl ?_
        rintro _ _ ⟨⟨v', rfl⟩, rfl⟩
        walk_at "mq"
        exact ⟨_, _, rfl, rfl, (take_end hm).1, (take_end hm).2, cs, a + 1, _, rfl, by omega, by omega, hcl⟩
      · walk_at "mq"
        refine call_ok hS.1 (hS.2 n _ a ha0 (by omega)) rfl rfl ?_
        rintro _ _ ⟨⟨v', rfl⟩, rfl⟩
        walk_at "mq"
        exact ⟨_, _, rfl, rfl, (take_end hm).1, (take_end hm).2, cs, a + 1, _, rfl, by omega, by omega, hcl⟩
  · walk_at "mq"
    exact ⟨_, _, rfl, rfl, (take_end hm).1, (take_end hm).2, cs, a, _, rfl, by omega, by omega, hcl⟩
theorem take_S {T : List Fn} {f s : Nat} (h : T[f]? = some (fnTake s)) (hs : S_spread T s) : S_take T f := ⟨MuT_of h, fun n k p m hp hk hm hm2 => take_ok h hs n hp hk hm hm2⟩

def S_one_of (T : List Fn) (f : Nat) : Prop := MuT T f = [true, false] ∧ ∀ (n : Nat) (k : Int) (p : PyData) (xs : List PyData), Pen k p → k < 1000000 → 0 < xs.length → xs.length ≤ 16777216 → Wc (run T (n + 3)) f [(true, p), (false, .list xs)] fun r fin => ∃ z p', r = (false, z) ∧ fin = [p'] ∧ z ∈ xs ∧ Pen (k + 1) p'
theorem oneof_ok {T : List Fn} {t o : Nat} (hO : T[o]? = some (fnOneOf t)) (hT : S_take T t) (n : Nat) {k : Int} {p : PyData} (hp : Pen k p) (hk : k < 1000000) {xs : List PyData} (h0 : xs ≠ []) (h1 : xs.length ≤ 16777216) :
    Wc (run T (n + 3)) o [(true, p), (false, .list xs)] fun r fin => ∃ z p', r = (false, z) ∧ fin = [p'] ∧ z ∈ xs ∧ Pen (k + 1) p' := by
  have hl := List.length_pos_iff.mpr h0
  refine Wc_of hO rfl ?_
  walk_at "mq"
  refine call_ok hT.1 (hT.2 n _ _ (xs.length) hp hk (by omega) (by omega)) rfl rfl ?_
  rintro _ _ ⟨z, p', rfl, rfl, hz0, hz1, hp'⟩
  walk_at "mq"
  obtain ⟨j, rfl⟩ := Int.eq_ofNat_of_zero_le hz0
  rw [atD_ofNat, List.getElem?_eq_getElem (by omega)]
  walk_at "mq"
  exact ⟨_, _, rfl, rfl, List.getElem_mem _, hp'⟩
/-- data that are compared part by part -/
def Sm : Nat → PyData → Prop
  | _, .none => True
  | _, .bool _ => True
  | _, .int _ => True
  | _, .str _ => True
  | n + 1, .list xs => xs.length ≤ 16777216 ∧ ∀ x ∈ xs, Sm n x
  | n + 1, .tuple xs => xs.length ≤ 16777216 ∧ ∀ x ∈ xs, Sm n x
  | _, _ => False
theorem okDs_bools : ∀ xs : List PyData, (∀ x ∈ xs, ∃ b, x = .bool b) → okDs xs = true := by
  intro xs h
  unfold okDs
  have : PyData.plainAll xs = true ∧ PyData.depthAll xs = 0 := by
    induction xs with
    | nil => exact ⟨rfl, rfl⟩
    | cons x xs ih =>
      obtain ⟨b, rfl⟩ := h x (by simp)
      have := ih (fun y hy => h y (by simp [hy]))
      rw [PyData.plainAll, PyData.depthAll, this.1, this.2]
      exact ⟨rfl, rfl⟩
  rw [this.1, this.2]
  rfl
theorem bools_rep (xs : List PyData) : (xs.flatMap fun _ => [PyData.bool true]) = List.replicate xs.length (.bool true) := by
  induction xs with
  | nil => rfl
  | cons x xs ih => rw [List.flatMap_cons, ih]; rfl
theorem zip_self_mem {xs : List PyData} {y : PyData} (h : y ∈ (List.map PyData.tuple (List.map (fun p => [p.fst, p.snd]) (xs.zip xs)))) : ∃ z ∈ xs, y = .tuple [z, z] := by
  simp only [List.map_map, List.mem_map] at h
  obtain ⟨⟨a, b⟩, hm, rfl⟩ := h
  have : ∀ (xs : List PyData), (a, b) ∈ xs.zip xs → a = b ∧ a ∈ xs := by
    intro xs
    induction xs with
    | nil => intro h; simp at h
    | cons x xs ih =>
      intro h
      rw [List.zip_cons_cons] at h
      rcases List.mem_cons.mp h with h | h
      · cases h
        exact ⟨rfl, by simp⟩
      · exact ⟨(ih h).1, List.mem_cons_of_mem _ (ih h).2⟩
  obtain ⟨rfl, hx⟩ := this xs hm
  exact ⟨a, hx, rfl⟩
theorem zip_self_len {xs : List PyData} : (List.map PyData.tuple (List.map (fun p => [p.fst, p.snd]) (xs.zip xs))).length = xs.length := by simp
theorem any_rep {n : Nat} : ((List.replicate n (PyData.bool true)).any fun y => PyData.eqv y (.bool false)) = false := by
  rw [List.any_eq_false]
  intro x hx
  rw [List.eq_of_mem_replicate hx]
  simp [PyData.eqv]
theorem okD_bool {b : Bool} : okD (.bool b) = true := rfl
theorem okDs_rep {n : Nat} : okDs (List.replicate n (PyData.bool true)) = true := okDs_bools _ fun x hx => ⟨true, List.eq_of_mem_replicate hx⟩
theorem same_ok {T : List Fn} {s : Nat} (hT : T[s]? = some (fnSame s)) : ∀ (m : Nat) (d : PyData) (n : Nat), Sm m d → Wc (run T (n + m + 1)) s [(false, d), (false, d)] fun r fin => r = (false, .bool true) ∧ fin = [] := by
  intro m
  induction m with
  | zero =>
    intro d n h
    refine Wc_of hT rfl ?_
    cases d with
    | none => walk_at "mq"
    | bool b => walk_at "mq"
    | int b => walk_at "mq"
    | str b => walk_at "mq"
    | _ => exact h.elim
  | succ m ih =>
    intro d n h
    refine Wc_of hT rfl ?_
    cases d with
    | none => walk_at "mq"
    | bool b => walk_at "mq"
    | int b => walk_at "mq"
    | str b => walk_at "mq"
    | dict => exact h.elim
    | list xs =>
      have hl : xs.length ≤ 16777216 := h.1
      walk_at "mq"
      refine Wk_pure2 (fun _ => [.bool true]) (fun y hy o o2 => ?_) ?_
      · obtain ⟨z, hz, rfl⟩ := zip_self_mem hy
        walk_at "mq"
        refine call_ok (MuT_of hT) (ih z n (h.2 z hz)) rfl rfl ?_
        rintro _ _ ⟨rfl, rfl⟩
        walk_at "mq"
        exact ⟨_, _, rfl⟩
      · rw [bools_rep, zip_self_len, List.length_replicate]
        refine ⟨szOk_of hl, ?_⟩
        walk_at "mq"
        rw [okD_bool, okDs_rep, any_rep]
        walk_at "mq"
    | tuple xs =>
      have hl : xs.length ≤ 16777216 := h.1
      walk_at "mq"
      refine Wk_pure2 (fun _ => [.bool true]) (fun y hy o o2 => ?_) ?_
      · obtain ⟨z, hz, rfl⟩ := zip_self_mem hy
        walk_at "mq"
        refine call_ok (MuT_of hT) (ih z n (h.2 z hz)) rfl rfl ?_
        rintro _ _ ⟨rfl, rfl⟩
        walk_at "mq"
        exact ⟨_, _, rfl⟩
      · rw [bools_rep, zip_self_len, List.length_replicate]
        refine ⟨szOk_of hl, ?_⟩
        walk_at "mq"
        rw [okD_bool, okDs_rep, any_rep]
        walk_at "mq"
theorem sliced_to {α : Type} {xs : List α} (k : Nat) : sliced xs none (some (k : Int)) = xs.take k := by
  unfold sliced
  rw [HT.sIx_none, HT.sIx_nat]
  simp [List.take_eq_take_iff]
theorem sliced_from {α : Type} {xs : List α} (k : Nat) : sliced xs (some (k : Int)) none = xs.drop k := by
  unfold sliced
  rw [HT.sIx_none, HT.sIx_nat]
  by_cases h : k ≤ xs.length
  · rw [Nat.min_eq_left h, List.take_of_length_le (by simp)]
  · rw [Nat.min_eq_right (by omega), List.drop_eq_nil_of_le (by omega), List.drop_eq_nil_of_le (by omega)]
    simp
theorem sliced_mid {α : Type} {xs : List α} (a b : Nat) : sliced xs (some (a : Int)) (some (b : Int)) = (xs.drop a).take (b - a) := by
  unfold sliced
  rw [HT.sIx_nat, HT.sIx_nat]
  by_cases h : a ≤ xs.length
  · rw [Nat.min_eq_left h]
    apply List.take_eq_take_iff.mpr
    simp
    omega
  · rw [Nat.min_eq_right (show xs.length ≤ a by omega), List.drop_eq_nil_of_le (by omega), List.drop_eq_nil_of_le (by omega)]
    simp
theorem enumL_getW {xs : List PyData} {k : Nat} {y : PyData} (h : (enumL xs)[k]? = some y) : ∃ x, xs[k]? = some x ∧ y = .tuple [.int k, x] := by
  unfold enumL at h
  rw [List.getElem?_map, List.getElem?_zipIdx] at h
  simp only [Option.map_map, Option.map_eq_some_iff, Function.comp] at h
  obtain ⟨x, hx, rfl⟩ := h
  exact ⟨x, hx, by simp⟩
theorem ints_get {ns : List Int} {k : Nat} {y : PyData} (h : (ns.map PyData.int)[k]? = some y) : ∃ z, ns[k]? = some z ∧ y = .int z := by
  rw [List.getElem?_map] at h
  obtain ⟨z, hz, rfl⟩ := Option.map_eq_some_iff.mp h
  exact ⟨z, hz, rfl⟩
theorem open_ok {T : List Fn} {o : Nat} (hO : T[o]? = some fnOpen) (n : Nat) (ns : List Int) (h : ns.length ≤ 63) : Wc (run T (n + 1)) o [(false, .list (ns.map .int))] fun r fin => ∃ p, r = (true, p) ∧ fin = [] ∧ Pen 0 p := by
  refine Wc_of hO rfl ?_
  walk_at "mq"
  have e1 := sliced_to (xs := ns.map PyData.int) 12
  have e2 := sliced_mid (xs := ns.map PyData.int) 12 63
  have e3 : ((12 : Nat) : Int) = 12 := rfl
  have e4 : ((63 : Nat) : Int) = 63 := rfl
  rw [e3] at e1
  rw [e3, e4] at e2
  rw [e1, e2]
  refine Wf_ix (fun k ρ => ∃ (cs : List Int) (o2 o3 : Option (Bool × PyData)), ρ = [some (false, .list (ns.map .int)), some (true, .list (cs.map .int)), o2, o3] ∧ cs.length = min 12 ns.length) ⟨ns.take 12, none, none, by rw [List.map_take], by simp⟩ ?_ ?_
  · rintro k y _ hy ⟨cs, o2, o3, rfl, hcl⟩
    obtain ⟨x, hx, rfl⟩ := enumL_getW hy
    rw [← List.map_drop, ← List.map_take] at hx
    obtain ⟨z, hz, rfl⟩ := ints_get hx
    have hk : k < ((ns.drop 12).take (63 - 12)).length := (List.getElem?_eq_some_iff.mp hz).1
    rw [List.length_take, List.length_drop] at hk
    have hc : cs.length = 12 := by omega
    walk_at "mq"
    obtain ⟨w, e⟩ := atD_ints (cs := cs) (i := (k : Int) % 12) (by omega) (by omega)
    rw [e]
    walk_at "mq"
    rw [List.length_map, ixN_nat (by omega) (by omega)]
    walk_at "mq"
    refine ⟨cs.set ((k : Int) % 12).toNat (w + z), _, _, by rw [List.map_set], by rw [List.length_set]; exact hcl⟩
  · rintro _ ⟨cs, o2, o3, rfl, hcl⟩
    walk_at "mq"
    exact ⟨_, rfl, cs, 0, 0, rfl, by omega, by omega, by omega⟩
def S_same (T : List Fn) (f : Nat) : Prop := MuT T f = [false, false] ∧ ∀ (n m : Nat) (d : PyData), Sm m d → Wc (run T (n + m + 1)) f [(false, d), (false, d)] fun r fin => r = (false, .bool true) ∧ fin = []
def S_open (T : List Fn) (f : Nat) : Prop := MuT T f = [false] ∧ ∀ (n : Nat) (ns : List Int), ns.length ≤ 63 → Wc (run T (n + 1)) f [(false, .list (ns.map .int))] fun r fin => ∃ p, r = (true, p) ∧ fin = [] ∧ Pen 0 p
theorem one_of_S {T : List Fn} {f t : Nat} (h : T[f]? = some (fnOneOf t)) (ht : S_take T t) : S_one_of T f := ⟨MuT_of h, fun n k p xs hp hk h0 h1 => oneof_ok h ht n hp hk (List.length_pos_iff.mp h0) h1⟩
theorem same_S {T : List Fn} {f : Nat} (h : T[f]? = some (fnSame f)) : S_same T f := ⟨MuT_of h, fun n m d hd => same_ok h m d n hd⟩
theorem open_S {T : List Fn} {f : Nat} (h : T[f]? = some fnOpen) : S_open T f := ⟨MuT_of h, fun n ns hn => open_ok h n ns hn⟩
theorem same_int {T : List Fn} {f : Nat} (h : S_same T f) (n : Nat) (i : Int) : Wc (run T (n + 1)) f [(false, .int i), (false, .int i)] fun r fin => r = (false, .bool true) ∧ fin = [] := h.2 n 0 (.int i) trivial

/-! ### rules for items of a kind -/
section
variable {Φ : Ph} {Mu : Nat → List Bool} {mp : List Nat} {ρ : Env} {t : Tg} {p : Sts} {elt : Ex} {ifs : Exs} {cl : Cl} {own : List Nat} {α : Type}
/-- a comprehension over items of a kind: what each lists -/
theorem Wk_ty {Q : Res → Env → Prop} {it : It} {xs : List α} {dat : α → PyData} (g : α → List PyData) (hs : ∀ x ∈ xs, ∀ os, os.length = own.length → Wct Φ Mu mp t ifs elt (dat x) (fill ρ own os) fun ds ρ1 => ds = g x ∧ ∃ os', os'.length = own.length ∧ ρ1 = fill ρ own os')
    (hd : szOk (xs.flatMap g).length = true ∧ Q (.own (.list (xs.flatMap g))) ρ) : Wk Φ Mu mp own elt (.last t it ifs) (xs.map dat) ρ Q := by
  unfold Wk
  refine Wl_ix (fun k acc ρ1 => acc = (xs.take k).flatMap g ∧ ∃ os, os.length = own.length ∧ ρ1 = fill ρ own os) ⟨by simp, _, by simp, wipe_fill own⟩ ?_ ?_
  · rintro k y acc ρ1 hk ⟨ha, os, hl, hr⟩
    subst hr
    rw [List.getElem?_map] at hk
    obtain ⟨x, hx, rfl⟩ := Option.map_eq_some_iff.mp hk
    refine (hs x (List.mem_of_getElem? hx) os hl).mono ?_
    rintro ds ρ2 ⟨h1, os', h2, h3⟩
    refine ⟨?_, os', h2, h3⟩
    subst ha h1
    rw [List.take_add_one, hx]
    simp
  · rintro out ρ1 ⟨ha, os, hl, hr⟩
    subst hr
    rw [List.length_map, List.take_length] at ha
    subst ha
    rw [back_fill own os]
    exact hd
theorem flatMap_one' {β : Type} (xs : List α) (g : α → β) : (xs.flatMap fun x => [g x]) = xs.map g := by
  induction xs with
  | nil => rfl
  | cons x xs ih => rw [List.flatMap_cons, ih]; rfl
theorem flatMap_if' {β : Type} (xs : List α) (c : α → Bool) (g : α → β) : (xs.flatMap fun x => if c x then [g x] else []) = (xs.filter c).map g := by
  induction xs with
  | nil => rfl
  | cons x xs ih =>
    rw [List.flatMap_cons, ih, List.filter_cons]
    cases c x <;> rfl
/-- each item makes one -/
theorem Wk_map1 {Q : Res → Env → Prop} {it : It} {xs : List α} {dat : α → PyData} {i : Nat} (e : α → PyData) (hl : xs.length ≤ 16777216) (hs : ∀ x ∈ xs, ∀ o, Wct Φ Mu mp t ifs elt (dat x) (fill ρ [i] [o]) fun ds ρ1 => ds = [e x] ∧ ∃ q, ρ1 = fill ρ [i] [q])
    (hd : Q (.own (.list (xs.map e))) ρ) : Wk Φ Mu mp [i] elt (.last t it ifs) (xs.map dat) ρ Q := by
  refine Wk_ty (fun x => [e x]) (fun x hx os ho => ?_) ?_
  · match os, ho with
    | [o], _ => exact (hs x hx o).mono fun ds ρ1 ⟨h1, q, h2⟩ => ⟨h1, [q], rfl, h2⟩
  · rw [flatMap_one', List.length_map]
    exact ⟨szOk_of hl, hd⟩
theorem Wk_map2 {Q : Res → Env → Prop} {it : It} {xs : List α} {dat : α → PyData} {i j : Nat} (e : α → PyData) (hl : xs.length ≤ 16777216) (hs : ∀ x ∈ xs, ∀ o o2, Wct Φ Mu mp t ifs elt (dat x) (fill ρ [i, j] [o, o2]) fun ds ρ1 => ds = [e x] ∧ ∃ q q2, ρ1 = fill ρ [i, j] [q, q2])
    (hd : Q (.own (.list (xs.map e))) ρ) : Wk Φ Mu mp [i, j] elt (.last t it ifs) (xs.map dat) ρ Q := by
  refine Wk_ty (fun x => [e x]) (fun x hx os ho => ?_) ?_
  · match os, ho with
    | [o, o2], _ => exact (hs x hx o o2).mono fun ds ρ1 ⟨h1, q, q2, h2⟩ => ⟨h1, [q, q2], rfl, h2⟩
  · rw [flatMap_one', List.length_map]
    exact ⟨szOk_of hl, hd⟩
theorem Wk_map3 {Q : Res → Env → Prop} {it : It} {xs : List α} {dat : α → PyData} {i j k : Nat} (e : α → PyData) (hl : xs.length ≤ 16777216) (hs : ∀ x ∈ xs, ∀ o o2 o3, Wct Φ Mu mp t ifs elt (dat x) (fill ρ [i, j, k] [o, o2, o3]) fun ds ρ1 => ds = [e x] ∧ ∃ q q2 q3, ρ1 = fill ρ [i, j, k] [q, q2, q3])
    (hd : Q (.own (.list (xs.map e))) ρ) : Wk Φ Mu mp [i, j, k] elt (.last t it ifs) (xs.map dat) ρ Q := by
  refine Wk_ty (fun x => [e x]) (fun x hx os ho => ?_) ?_
  · match os, ho with
    | [o, o2, o3], _ => exact (hs x hx o o2 o3).mono fun ds ρ1 ⟨h1, q, q2, q3, h2⟩ => ⟨h1, [q, q2, q3], rfl, h2⟩
  · rw [flatMap_one', List.length_map]
    exact ⟨szOk_of hl, hd⟩
/-- those items that pass make one -/
theorem Wk_fil1 {Q : Res → Env → Prop} {it : It} {xs : List α} {dat : α → PyData} {i : Nat} (c : α → Bool) (e : α → PyData) (hl : xs.length ≤ 16777216) (hs : ∀ x ∈ xs, ∀ o, Wct Φ Mu mp t ifs elt (dat x) (fill ρ [i] [o]) fun ds ρ1 => (ds = if c x then [e x] else []) ∧ ∃ q, ρ1 = fill ρ [i] [q])
    (hd : Q (.own (.list ((xs.filter c).map e))) ρ) : Wk Φ Mu mp [i] elt (.last t it ifs) (xs.map dat) ρ Q := by
  refine Wk_ty (fun x => if c x then [e x] else []) (fun x hx os ho => ?_) ?_
  · match os, ho with
    | [o], _ => exact (hs x hx o).mono fun ds ρ1 ⟨h1, q, h2⟩ => ⟨h1, [q], rfl, h2⟩
  · rw [flatMap_if', List.length_map]
    exact ⟨szOk_of (Nat.le_trans (List.length_filter_le ..) hl), hd⟩
theorem Wk_fil2 {Q : Res → Env → Prop} {it : It} {xs : List α} {dat : α → PyData} {i j : Nat} (c : α → Bool) (e : α → PyData) (hl : xs.length ≤ 16777216) (hs : ∀ x ∈ xs, ∀ o o2, Wct Φ Mu mp t ifs elt (dat x) (fill ρ [i, j] [o, o2]) fun ds ρ1 => (ds = if c x then [e x] else []) ∧ ∃ q q2, ρ1 = fill ρ [i, j] [q, q2])
    (hd : Q (.own (.list ((xs.filter c).map e))) ρ) : Wk Φ Mu mp [i, j] elt (.last t it ifs) (xs.map dat) ρ Q := by
  refine Wk_ty (fun x => if c x then [e x] else []) (fun x hx os ho => ?_) ?_
  · match os, ho with
    | [o, o2], _ => exact (hs x hx o o2).mono fun ds ρ1 ⟨h1, q, q2, h2⟩ => ⟨h1, [q, q2], rfl, h2⟩
  · rw [flatMap_if', List.length_map]
    exact ⟨szOk_of (Nat.le_trans (List.length_filter_le ..) hl), hd⟩
/-- a comprehension whose turns change the rest: each makes one -/
theorem Wk_st {β : Type} {Q : Res → Env → Prop} {it : It} {xs : List α} {dat : α → PyData} (out : β → PyData) (J : List α → List β → Env → Prop) (h0 : J [] [] (wipe ρ own)) (hl : xs.length ≤ 16777216)
    (hs : ∀ a x r bs ρ1, xs = a ++ x :: r → bs.length = a.length → J a bs ρ1 → Wct Φ Mu mp t ifs elt (dat x) ρ1 fun ds ρ2 => ∃ b, ds = [out b] ∧ J (a ++ [x]) (bs ++ [b]) ρ2)
    (hd : ∀ bs ρ1, bs.length = xs.length → J xs bs ρ1 → Q (.own (.list (bs.map out))) (back ρ ρ1 own)) : Wk Φ Mu mp own elt (.last t it ifs) (xs.map dat) ρ Q := by
  unfold Wk
  refine Wl_ix (fun k acc ρ1 => ∃ bs, acc = bs.map out ∧ bs.length = (xs.take k).length ∧ J (xs.take k) bs ρ1) ⟨[], rfl, by simp, by simpa using h0⟩ ?_ ?_
  · rintro k y acc ρ1 hk ⟨bs, rfl, hb, hj⟩
    rw [List.getElem?_map] at hk
    obtain ⟨x, hx, rfl⟩ := Option.map_eq_some_iff.mp hk
    have e1 : xs = xs.take k ++ x :: xs.drop (k + 1) := by
      obtain ⟨h1, h2⟩ := List.getElem?_eq_some_iff.mp hx
      rw [← h2, List.getElem_cons_drop, List.take_append_drop]
    refine (hs _ x _ bs ρ1 e1 hb hj).mono ?_
    rintro ds ρ2 ⟨b, rfl, h2⟩
    have e2 : xs.take (k + 1) = xs.take k ++ [x] := by rw [List.take_add_one, hx]; rfl
    exact ⟨bs ++ [b], by simp, by rw [e2, List.length_append, List.length_append, hb]; rfl, by rw [e2]; exact h2⟩
  · rintro _ ρ1 ⟨bs, rfl, hb, hj⟩
    rw [List.length_map, List.take_length] at hb hj
    exact ⟨by rw [List.length_map, hb]; exact szOk_of hl, hd bs ρ1 hb hj⟩
/-- a comprehension whose turns change the rest: each makes one or none -/
theorem Wk_stf {β : Type} {Q : Res → Env → Prop} {it : It} {xs : List α} {dat : α → PyData} (out : β → PyData) (J : List α → List β → Env → Prop) (h0 : J [] [] (wipe ρ own)) (hl : xs.length ≤ 16777216)
    (hs : ∀ a x r bs ρ1, xs = a ++ x :: r → bs.length ≤ a.length → J a bs ρ1 → Wct Φ Mu mp t ifs elt (dat x) ρ1 fun ds ρ2 => ∃ bs', ds = bs'.map out ∧ bs'.length ≤ 1 ∧ J (a ++ [x]) (bs ++ bs') ρ2)
    (hd : ∀ bs ρ1, bs.length ≤ xs.length → J xs bs ρ1 → Q (.own (.list (bs.map out))) (back ρ ρ1 own)) : Wk Φ Mu mp own elt (.last t it ifs) (xs.map dat) ρ Q := by
  unfold Wk
  refine Wl_ix (fun k acc ρ1 => ∃ bs, acc = bs.map out ∧ bs.length ≤ (xs.take k).length ∧ J (xs.take k) bs ρ1) ⟨[], rfl, by simp, by simpa using h0⟩ ?_ ?_
  · rintro k y acc ρ1 hk ⟨bs, rfl, hb, hj⟩
    rw [List.getElem?_map] at hk
    obtain ⟨x, hx, rfl⟩ := Option.map_eq_some_iff.mp hk
    have e1 : xs = xs.take k ++ x :: xs.drop (k + 1) := by
      obtain ⟨h1, h2⟩ := List.getElem?_eq_some_iff.mp hx
      rw [← h2, List.getElem_cons_drop, List.take_append_drop]
    refine (hs _ x _ bs ρ1 e1 hb hj).mono ?_
    rintro ds ρ2 ⟨bs', rfl, hb', h2⟩
    have e2 : xs.take (k + 1) = xs.take k ++ [x] := by rw [List.take_add_one, hx]; rfl
    exact ⟨bs ++ bs', by simp, by rw [e2, List.length_append, List.length_append]; simp only [List.length_singleton]; omega, by rw [e2]; exact h2⟩
  · rintro _ ρ1 ⟨bs, rfl, hb, hj⟩
    rw [List.length_map, List.take_length] at hb hj
    exact ⟨by rw [List.length_map]; exact szOk_of (by omega), hd bs ρ1 hb hj⟩
/-- a loop, by what is left -/
theorem Wf_suf {Q : Fl → Env → Prop} {dat : α → PyData} (xs : List α) (J : List α → Env → Prop) (h0 : J xs ρ) (hs : ∀ a x r ρ, xs = a ++ x :: r → J (x :: r) ρ → Wt Φ Mu mp t p (dat x) ρ (J r) Q) (hd : ∀ ρ, J [] ρ → Q .nx ρ) : Wf Φ Mu mp t p (xs.map dat) ρ Q := by
  refine Wf_ix (fun k => J (xs.drop k)) (by simpa using h0) (fun k y ρ1 hk hj => ?_) (fun ρ1 hj => hd ρ1 (by rwa [List.length_map, List.drop_length] at hj))
  rw [List.getElem?_map] at hk
  obtain ⟨x, hx, rfl⟩ := Option.map_eq_some_iff.mp hk
  obtain ⟨h1, h2⟩ := List.getElem?_eq_some_iff.mp hx
  have e1 : xs.drop k = x :: xs.drop (k + 1) := by rw [← h2, List.getElem_cons_drop]
  exact hs (xs.take k) x _ ρ1 (by rw [← e1, List.take_append_drop]) (by rwa [e1] at hj)
/-- a loop, by what is behind -/
theorem Wf_pre {Q : Fl → Env → Prop} {dat : α → PyData} (xs : List α) (J : List α → Env → Prop) (h0 : J [] ρ) (hs : ∀ a x r ρ, xs = a ++ x :: r → J a ρ → Wt Φ Mu mp t p (dat x) ρ (J (a ++ [x])) Q) (hd : ∀ ρ, J xs ρ → Q .nx ρ) : Wf Φ Mu mp t p (xs.map dat) ρ Q := by
  refine Wf_ix (fun k => J (xs.take k)) (by simpa using h0) (fun k y ρ1 hk hj => ?_) (fun ρ1 hj => hd ρ1 (by rwa [List.length_map, List.take_length] at hj))
  rw [List.getElem?_map] at hk
  obtain ⟨x, hx, rfl⟩ := Option.map_eq_some_iff.mp hk
  obtain ⟨h1, h2⟩ := List.getElem?_eq_some_iff.mp hx
  have e1 : xs.drop k = x :: xs.drop (k + 1) := by rw [← h2, List.getElem_cons_drop]
  have e2 : xs.take (k + 1) = xs.take k ++ [x] := by rw [List.take_add_one, hx]; rfl
  show Wt Φ Mu mp t p (dat x) ρ1 (J (xs.take (k + 1))) Q
  rw [e2]
  exact hs (xs.take k) x _ ρ1 (by rw [← e1, List.take_append_drop]) hj
theorem Wt_noexit {y : PyData} {ρ1 : Env} {N : Env → Prop} {Q : Fl → Env → Prop} (h : Wt Φ Mu mp t p y ρ1 N fun _ _ => False) : Wt Φ Mu mp t p y ρ1 N Q := by
  refine kd.mono h fun ρ2 h2 => Wss.mono h2 fun fl ρ3 h3 => ?_
  cases fl with
  | nx => exact h3
  | ct => exact h3
  | br => exact h3.elim
  | rt v => exact h3.elim
/-- the same, and no turn leaves the loop -/
theorem Wf_preF {Q : Fl → Env → Prop} {dat : α → PyData} (xs : List α) (J : List α → Env → Prop) (h0 : J [] ρ) (hs : ∀ a x r ρ, xs = a ++ x :: r → J a ρ → Wt Φ Mu mp t p (dat x) ρ (J (a ++ [x])) fun _ _ => False) (hd : ∀ ρ, J xs ρ → Q .nx ρ) : Wf Φ Mu mp t p (xs.map dat) ρ Q :=
  Wf_pre xs J h0 (fun a x r ρ1 e hj => Wt_noexit (hs a x r ρ1 e hj)) hd
end
/-! items side by side, numbered, of a range -/
section
variable {α β : Type}
theorem enumL_map (dat : α → PyData) (xs : List α) : enumL (xs.map dat) = xs.zipIdx.map fun p => .tuple [.int (p.2 : Nat), dat p.1] := by
  unfold enumL
  apply List.ext_getElem?
  intro i
  rw [List.getElem?_map, List.getElem?_zipIdx, List.getElem?_map, List.getElem?_map, List.getElem?_zipIdx]
  cases xs[i]? <;> rfl
theorem zip_ty (f : α → PyData) (g : β → PyData) (xs : List α) (ys : List β) : (((xs.map f).zip (ys.map g)).map fun p => [p.1, p.2]).map PyData.tuple = (xs.zip ys).map fun p => .tuple [f p.1, g p.2] := by
  rw [List.zip_map, List.map_map, List.map_map]
  rfl
theorem rngL_ty (n : Nat) : rngL 0 (n : Int) = (List.range n).map fun (k : Nat) => .int (k : Int) := by
  unfold rngL
  rw [Int.sub_zero, Int.toNat_natCast]
  apply List.map_congr_left
  intro k _
  rw [Int.zero_add]
theorem rngL_ty2 (a b : Int) : rngL a b = (List.range (b - a).toNat).map fun (k : Nat) => .int (a + (k : Int)) := rfl
theorem atD_ty (g : α → PyData) {xs : List α} {n : Nat} (h : n < xs.length) : atD (xs.map g) (n : Int) = some (g xs[n]) := by
  rw [atD_ofNat, List.getElem?_map, List.getElem?_eq_getElem h]
  rfl
theorem atD_last (g : α → PyData) {xs : List α} (h : xs ≠ []) : atD (xs.map g) (-1) = some (g (xs.getLast h)) := by
  have hl := List.length_pos_iff.mpr h
  unfold atD
  rw [List.length_map, ixN_neg (by omega) (by omega), Option.bind_some, List.getElem?_map, List.getLast_eq_getElem, show (-1 + (xs.length : Int)).toNat = xs.length - 1 by omega, List.getElem?_eq_getElem (by omega)]
  rfl
theorem boolish_ty (b : α → Bool) (xs : List α) : boolish (xs.map fun x => PyData.bool (b x)) = true := by
  unfold boolish
  rw [List.all_eq_true]
  intro y hy
  obtain ⟨x, _, rfl⟩ := List.mem_map.mp hy
  rfl
theorem all_ty (b : α → Bool) (xs : List α) : (xs.map fun x => PyData.bool (b x)).all PyData.truthy = xs.all b := by
  rw [List.all_map]
  rfl
theorem any_ty (b : α → Bool) (xs : List α) : (xs.map fun x => PyData.bool (b x)).any PyData.truthy = xs.any b := by
  rw [List.any_map]
  rfl
theorem sumI_ty (f : α → Int) (xs : List α) : sumI (xs.map fun x => PyData.int (f x)) = some (xs.map f).sum := by
  induction xs with
  | nil => rfl
  | cons x xs ih =>
    rw [List.map_cons, List.map_cons, sumI, ih, List.sum_cons]
    rfl
theorem kite_b {b : Bool} {A B : Env → Prop} {ρ : Env} (h : b = true → A ρ) (k : b = false → B ρ) : kite b A B ρ := ⟨h, k⟩
end
theorem Wk_as {Φ : Ph} {Mu : Nat → List Bool} {mp : List Nat} {ρ : Env} {elt : Ex} {cl : Cl} {own : List Nat} {Q : Res → Env → Prop} {xs ys : List PyData} (e : ys = xs) (h : Wk Φ Mu mp own elt cl xs ρ Q) : Wk Φ Mu mp own elt cl ys ρ Q := e ▸ h
theorem Wf_as {Φ : Ph} {Mu : Nat → List Bool} {mp : List Nat} {ρ : Env} {t : Tg} {p : Sts} {Q : Fl → Env → Prop} {xs ys : List PyData} (e : ys = xs) (h : Wf Φ Mu mp t p xs ρ Q) : Wf Φ Mu mp t p ys ρ Q := e ▸ h
abbrev natD (i : Nat) : PyData := .int (i : Int)

/-! a while's rule -/
theorem whileN_more {c : Env → Option (Bool × Env)} {b : Env → Option (Fl × Env)} : ∀ (n : Nat) (ρ : Env) (r : Fl × Env), whileN c b n ρ = some r → ∀ k, whileN c b (n + k) ρ = some r
  | 0, ρ, r, h => by unfold whileN at h; cases h
  | n + 1, ρ, r, h => fun k => by
    rw [Nat.add_right_comm]
    unfold whileN at h ⊢
    rcases hc : c ρ with _ | ⟨v, ρ1⟩
    · rw [hc] at h
      cases h
    · rw [hc] at h
      cases v with
      | false => exact h
      | true =>
        simp only at h ⊢
        rcases hb : b ρ1 with _ | ⟨fl, ρ2⟩
        · rw [hb] at h
          cases h
        · rw [hb] at h
          cases fl with
          | nx => exact whileN_more n ρ2 r h k
          | ct => exact whileN_more n ρ2 r h k
          | br => exact h
          | rt w => exact h
theorem whileD_some {c : Env → Option (Bool × Env)} {b : Env → Option (Fl × Env)} {n : Nat} {ρ : Env} {r : Fl × Env} (h : whileN c b n ρ = some r) : whileD c b ρ = some r := by
  have hx : ∃ n r, whileN c b n ρ = some r := ⟨n, r, h⟩
  unfold whileD
  rw [dif_pos hx]
  have hs := Classical.choose_spec (Classical.choose_spec hx)
  have h1 := whileN_more _ _ _ hs n
  have h2 := whileN_more _ _ _ h (Classical.choose hx)
  rw [Nat.add_comm] at h2
  rw [h1] at h2
  exact h2
theorem whileD_ofW {c : Env → Option (Bool × Env)} {b : Env → Option (Fl × Env)} {ρ : Env} {r : Fl × Env} (h : whileD c b ρ = some r) : ∃ n, whileN c b n ρ = some r := by
  unfold whileD at h
  split at h
  · rename_i hx
    cases h
    exact ⟨_, Classical.choose_spec (Classical.choose_spec hx)⟩
  · cases h
theorem Ww_meas {Φ : Ph} {Mu : Nat → List Bool} {mp : List Nat} {c : Ex} {p : Sts} {Q : Fl → Env → Prop} (J : Nat → Env → Prop) (hs : ∀ m ρ, J m ρ → We Φ Mu mp c ρ fun r ρ1 => kd (valOf ρ1 r) fun d => kb d fun v => kite v (fun ρ => Wss Φ Mu mp p ρ fun fl ρ2 => kturn fl ρ2 (fun ρ3 => ∃ k, k < m ∧ J k ρ3) Q) (fun ρ => Q .nx ρ) ρ1) : ∀ m ρ, J m ρ → Ww Φ Mu mp c p ρ Q := by
  intro m
  induction m using Nat.strongRecOn with
  | ind m ih =>
    intro ρ hJ
    obtain ⟨r, ρ1, h1, d, h2, v, rfl, h3, h4⟩ := hs m ρ hJ
    have hc : bT (den Φ Mu mp c) ρ = some (v, ρ1) := by
      unfold bT
      rw [h1]
      simp only [h2]
    cases v with
    | false =>
      refine ⟨.nx, ρ1, whileD_some (n := 1) ?_, h4 rfl⟩
      unfold whileN
      rw [hc]
    | true =>
      obtain ⟨fl, ρ2, h5, h6⟩ := h3 rfl
      have go : ∀ (r : Fl × Env), (fl = .nx ∨ fl = .ct) → whileD (bT (den Φ Mu mp c)) (fun ρ => execs Φ Mu mp p ρ) ρ2 = some r → whileD (bT (den Φ Mu mp c)) (fun ρ => execs Φ Mu mp p ρ) ρ = some r := by
        intro r hfl h
        obtain ⟨n, hn⟩ := whileD_ofW h
        refine whileD_some (n := n + 1) ?_
        unfold whileN
        rw [hc]
        simp only [h5]
        rcases hfl with rfl | rfl
        · exact hn
        · exact hn
      cases fl with
      | nx =>
        obtain ⟨k, hk, hJ2⟩ := h6
        obtain ⟨fl2, ρ3, h7, h8⟩ := ih k hk ρ2 hJ2
        exact ⟨fl2, ρ3, go _ (.inl rfl) h7, h8⟩
      | ct =>
        obtain ⟨k, hk, hJ2⟩ := h6
        obtain ⟨fl2, ρ3, h7, h8⟩ := ih k hk ρ2 hJ2
        exact ⟨fl2, ρ3, go _ (.inr rfl) h7, h8⟩
      | br =>
        refine ⟨.nx, ρ2, whileD_some (n := 1) ?_, h6⟩
        unfold whileN
        rw [hc]
        simp only [h5]
      | rt w =>
        refine ⟨.rt w, ρ2, whileD_some (n := 1) ?_, h6⟩
        unfold whileN
        rw [hc]
        simp only [h5]

/-! ### two clauses over items of a kind; loops over enumerated items -/
section
variable {Φ : Ph} {Mu : Nat → List Bool} {mp : List Nat} {ρ : Env} {t : Tg} {p : Sts} {elt : Ex} {ifs : Exs} {cl : Cl} {own : List Nat} {α : Type}
theorem Wk_two {Q : Res → Env → Prop} {it : It} {xs : List α} {dat : α → PyData} {i j : Nat} (g : α → List PyData) (hs : ∀ x ∈ xs, ∀ o o2, Wmt Φ Mu mp t ifs elt cl (dat x) (fill ρ [i, j] [o, o2]) fun ds ρ1 => ds = g x ∧ ∃ q q2, ρ1 = fill ρ [i, j] [q, q2])
    (hd : szOk (xs.flatMap g).length = true ∧ Q (.own (.list (xs.flatMap g))) ρ) : Wk Φ Mu mp [i, j] elt (.more t it ifs cl) (xs.map dat) ρ Q := by
  refine Wk_ix2 (fun k acc ρ1 => acc = (xs.take k).flatMap g ∧ ∃ o o2, ρ1 = fill ρ [i, j] [o, o2]) ⟨by simp, none, none, wipe_fill [i, j]⟩ ?_ ?_
  · rintro k y acc ρ1 hk ⟨ha, o, o2, hr⟩
    subst hr
    rw [List.getElem?_map] at hk
    obtain ⟨x, hx, rfl⟩ := Option.map_eq_some_iff.mp hk
    refine (hs x (List.mem_of_getElem? hx) o o2).mono ?_
    rintro ds ρ2 ⟨h1, q, q2, h3⟩
    refine ⟨?_, q, q2, h3⟩
    subst ha h1
    rw [List.take_add_one, hx]
    simp
  · rintro out ρ1 ⟨ha, o, o2, hr⟩
    subst hr
    rw [List.length_map, List.take_length] at ha
    subst ha
    rw [back_fill [i, j] [o, o2]]
    exact hd
theorem Wl_ty1 {Q : List PyData → Env → Prop} {it : It} {xs : List α} {dat : α → PyData} {j : Nat} {o0 : Option (Bool × PyData)} (e : α → PyData) (hs : ∀ x ∈ xs, ∀ o, Wct Φ Mu mp t ifs elt (dat x) (fill ρ [j] [o]) fun ds ρ1 => ds = [e x] ∧ ∃ q, ρ1 = fill ρ [j] [q])
    (h0 : ρ = fill ρ [j] [o0]) (k : ∀ q, Q (xs.map e) (fill ρ [j] [q])) : Wl Φ Mu mp elt (.last t it ifs) (xs.map dat) ρ Q := by
  refine Wl_ix (fun k acc ρ1 => acc = (xs.take k).map e ∧ ∃ o, ρ1 = fill ρ [j] [o]) ⟨by simp, _, h0⟩ ?_ ?_
  · rintro k y acc ρ1 hk ⟨ha, o, hr⟩
    subst hr
    rw [List.getElem?_map] at hk
    obtain ⟨x, hx, rfl⟩ := Option.map_eq_some_iff.mp hk
    refine (hs x (List.mem_of_getElem? hx) o).mono ?_
    rintro ds ρ2 ⟨h1, q, h3⟩
    refine ⟨?_, q, h3⟩
    subst ha h1
    rw [List.take_add_one, hx]
    simp
  · rintro out ρ1 ⟨ha, o, hr⟩
    subst hr
    rw [List.length_map, List.take_length] at ha
    subst ha
    exact k o
theorem Wf_enm {Q : Fl → Env → Prop} {xs : List α} {dat : α → PyData} (J : Nat → Env → Prop) (h0 : J 0 ρ) (hs : ∀ k (h : k < xs.length) ρ, J k ρ → Wt Φ Mu mp t p (.tuple [.int (k : Nat), dat xs[k]]) ρ (J (k + 1)) fun _ _ => False) (hd : ∀ ρ, J xs.length ρ → Q .nx ρ) : Wf Φ Mu mp t p (enumL (xs.map dat)) ρ Q := by
  refine Wf_ixF J h0 (fun k y ρ1 hk hj => ?_) (fun ρ1 h1 => hd ρ1 (by simpa [enumL] using h1))
  obtain ⟨x, hx, rfl⟩ := enumL_getW hk
  rw [List.getElem?_map] at hx
  obtain ⟨z, hz, rfl⟩ := Option.map_eq_some_iff.mp hx
  obtain ⟨hlt, rfl⟩ := List.getElem?_eq_some_iff.mp hz
  exact hs k hlt ρ1 hj
theorem Wf_enmQ {Q : Fl → Env → Prop} {xs : List α} {dat : α → PyData} (J : Nat → Env → Prop) (h0 : J 0 ρ) (hs : ∀ k (h : k < xs.length) ρ, J k ρ → Wt Φ Mu mp t p (.tuple [.int (k : Nat), dat xs[k]]) ρ (J (k + 1)) Q) (hd : ∀ ρ, J xs.length ρ → Q .nx ρ) : Wf Φ Mu mp t p (enumL (xs.map dat)) ρ Q := by
  refine Wf_ix J h0 (fun k y ρ1 hk hj => ?_) (fun ρ1 h1 => hd ρ1 (by simpa [enumL] using h1))
  obtain ⟨x, hx, rfl⟩ := enumL_getW hk
  rw [List.getElem?_map] at hx
  obtain ⟨z, hz, rfl⟩ := Option.map_eq_some_iff.mp hx
  obtain ⟨hlt, rfl⟩ := List.getElem?_eq_some_iff.mp hz
  exact hs k hlt ρ1 hj
/-! loops over a list that stays -/
theorem Wfo_ix {Q : Fl → Env → Prop} {i : Nat} {d : PyData} : ∀ (ys : List PyData) (ρ : Env) (J : Nat → Env → Prop), J 0 ρ → (∀ k ρ, J k ρ → ρ[i]? = some (some (true, d))) → (∀ k y ρ, ys[k]? = some y → J k ρ → Wt Φ Mu mp t p y ρ (J (k + 1)) Q) → (∀ ρ, J ys.length ρ → Q .nx ρ) → Wfo Φ Mu mp t p i d ys ρ Q
  | [], ρ, J, h0, hc, hs, hd => by
    unfold Wfo
    rw [loopO, if_pos (hc 0 ρ h0)]
    exact ok2_some.mpr (hd ρ h0)
  | y :: ys, ρ, J, h0, hc, hs, hd => by
    unfold Wfo
    rw [loopO, if_pos (hc 0 ρ h0)]
    obtain ⟨ρ1, e1, fl, ρ2, e2, h⟩ := hs 0 y ρ rfl h0
    have e3 : tgB mp t (fun ρ => execs Φ Mu mp p ρ) y ρ = some (fl, ρ2) := by
      unfold tgB
      rw [e1]
      exact e2
    rw [e3]
    have ih := fun h1 => Wfo_ix ys ρ2 (fun k => J (k + 1)) h1 (fun k ρ hj => hc (k + 1) ρ hj) (fun k y ρ hk hj => hs (k + 1) y ρ hk hj) hd
    cases fl with
    | nx => exact ih h
    | ct => exact ih h
    | br => exact ok2_some.mpr h
    | rt v => exact ok2_some.mpr h
theorem Wfo_enm {Q : Fl → Env → Prop} {i : Nat} {d : PyData} {xs : List α} {dat : α → PyData} (J : Nat → Env → Prop) (h0 : J 0 ρ) (hc : ∀ k ρ, J k ρ → ρ[i]? = some (some (true, d))) (hs : ∀ k (h : k < xs.length) ρ, J k ρ → Wt Φ Mu mp t p (.tuple [.int (k : Nat), dat xs[k]]) ρ (J (k + 1)) Q) (hd : ∀ ρ, J xs.length ρ → Q .nx ρ) : Wfo Φ Mu mp t p i d (enumL (xs.map dat)) ρ Q := by
  refine Wfo_ix _ _ J h0 hc (fun k y ρ1 hk hj => ?_) (fun ρ1 h1 => hd ρ1 (by simpa [enumL] using h1))
  obtain ⟨x, hx, rfl⟩ := enumL_getW hk
  rw [List.getElem?_map] at hx
  obtain ⟨z, hz, rfl⟩ := Option.map_eq_some_iff.mp hx
  obtain ⟨hlt, rfl⟩ := List.getElem?_eq_some_iff.mp hz
  exact hs k hlt ρ1 hj
end

/-! ### specs as propositions -/
theorem take_call {T : List Fn} {f n : Nat} {k : Int} {p : PyData} {m : Int} {rs : List Res} {ρ : Env} {Q : Res → Env → Prop} (h : S_take T f) (hp : Pen k p) (hk : k < 1000000) (hm : 0 < m) (hm2 : m < 100000000000000000000000000000000000000000000000000)
    (hok : (argOk [true, false] rs && (decide (mutPl [true, false] rs).Nodup && (mutPl [true, false] rs).all fun i => !(bors (fz [true, false] rs)).contains i)) = true) (hv : argVals ρ [true, false] rs = some [(true, p), (false, .int m)])
    (K : ∀ z p', 0 ≤ z → z < m → Pen (k + 1) p' → kd (putAll (mutPl [true, false] rs) [p'] (frzRs ρ (fz [true, false] rs))) fun ρ2 => Q (.sh (.int z)) ρ2) : kcall (run T (n + 2)) (MuT T f) f rs ρ Q := by
  refine call_ok h.1 (h.2 n k p m hp hk hm hm2) hok hv ?_
  rintro _ _ ⟨z, p', rfl, rfl, h0, h1, h2⟩
  exact kafter_tf.mpr (K z p' h0 h1 h2)
theorem one_call {T : List Fn} {f n : Nat} {k : Int} {p : PyData} {xs : List PyData} {rs : List Res} {ρ : Env} {Q : Res → Env → Prop} (h : S_one_of T f) (hp : Pen k p) (hk : k < 1000000) (hm : 0 < xs.length) (hm2 : xs.length ≤ 16777216)
    (hok : (argOk [true, false] rs && (decide (mutPl [true, false] rs).Nodup && (mutPl [true, false] rs).all fun i => !(bors (fz [true, false] rs)).contains i)) = true) (hv : argVals ρ [true, false] rs = some [(true, p), (false, .list xs)])
    (K : ∀ z p', z ∈ xs → Pen (k + 1) p' → kd (putAll (mutPl [true, false] rs) [p'] (frzRs ρ (fz [true, false] rs))) fun ρ2 => Q (.sh z) ρ2) : kcall (run T (n + 3)) (MuT T f) f rs ρ Q := by
  refine call_ok h.1 (h.2 n k p xs hp hk hm hm2) hok hv ?_
  rintro _ _ ⟨z, p', rfl, rfl, h0, h2⟩
  exact kafter_tf.mpr (K z p' h0 h2)
theorem Wk_ix {Φ : Ph} {Mu : Nat → List Bool} {mp : List Nat} {ρ : Env} {t : Tg} {elt : Ex} {ifs : Exs} {own : List Nat} {Q : Res → Env → Prop} {it : It} {xs : List PyData} (J : Nat → List PyData → Env → Prop) (h0 : J 0 [] (wipe ρ own)) (hs : ∀ k y acc ρ, xs[k]? = some y → J k acc ρ → Wct Φ Mu mp t ifs elt y ρ fun ds ρ1 => J (k + 1) (acc ++ ds) ρ1)
    (hd : ∀ out ρ', J xs.length out ρ' → szOk out.length = true ∧ Q (.own (.list out)) (back ρ ρ' own)) : Wk Φ Mu mp own elt (.last t it ifs) xs ρ Q := Wl_ix J h0 hs hd
/-- over a range from 0 -/
theorem Wk_rng {Φ : Ph} {Mu : Nat → List Bool} {mp : List Nat} {ρ : Env} {t : Tg} {elt : Ex} {ifs : Exs} {own : List Nat} {Q : Res → Env → Prop} {it : It} {n : Int} (J : Nat → List PyData → Env → Prop) (h0 : J 0 [] (wipe ρ own)) (hs : ∀ (k : Nat) acc ρ, (k : Int) < n → J k acc ρ → Wct Φ Mu mp t ifs elt (.int k) ρ fun ds ρ1 => J (k + 1) (acc ++ ds) ρ1)
    (hd : ∀ out ρ', J n.toNat out ρ' → szOk out.length = true ∧ Q (.own (.list out)) (back ρ ρ' own)) : Wk Φ Mu mp own elt (.last t it ifs) (rngL 0 n) ρ Q := by
  refine Wl_ix J h0 (fun k y acc ρ hk hj => ?_) (fun out ρ h => hd out ρ (by rwa [rngL_len, Int.sub_zero] at h))
  obtain ⟨e, hl⟩ := rngL_getW hk
  rw [Int.zero_add] at e hl
  subst e
  exact hs k acc ρ hl hj
/-! ### data of the program -/
def pairD (p : Int × Int) : PyData := .tuple [.int p.1, .int p.2]
def pairsD (ps : List (Int × Int)) : PyData := .tuple (ps.map pairD)
inductive Meas where
  | terms (mx : Bool) (cs : List (List (Int × Int)))
  | late (ws : List Int)
def Meas.way : Meas → Str
  | .terms true _ => sMax
  | .terms false _ => sSum
  | .late _ => sLate
def Meas.costs : Meas → List PyData
  | .terms _ cs => cs.map pairsD
  | .late ws => ws.map .int
def measD (M : Meas) : PyData := .tuple [.str M.way, .tuple M.costs]
def Meas.kinds : Meas → Nat
  | .terms _ cs => cs.length
  | .late ws => ws.length
def small (i : Int) : Prop := -9 ≤ i ∧ i ≤ 9
/-- an entry: one term, or two ascending ones -/
def termsOk (ts : List (Int × Int)) : Prop := (∃ a, ts = [a] ∨ ∃ b, ts = [a, b] ∧ (a.1 < b.1 ∨ (a.1 = b.1 ∧ a.2 < b.2))) ∧ ∀ t ∈ ts, small t.1 ∧ small t.2
def Meas.ok : Meas → Prop
  | .terms _ cs => ∀ ts ∈ cs, termsOk ts
  | .late ws => ∀ w ∈ ws, 1 ≤ w ∧ w ≤ 9
structure Job where
  k : Nat
  p : Int
  d : Int
def jobD (j : Job) : PyData := .tuple [.int j.k, .int j.p, .int j.d]
section
variable {j : Job} {Q : Bool × PyData → Prop}
theorem Wo_job0 : Wo .idx [jobD j, .int 0] Q ↔ Q (false, .int j.k) := by
  unfold jobD
  rw [Wo_idxT, atD_0, kd_some]
theorem Wo_job1 : Wo .idx [jobD j, .int 1] Q ↔ Q (false, .int j.p) := by
  unfold jobD
  rw [Wo_idxT, atD_1, kd_some]
theorem Wo_job2 : Wo .idx [jobD j, .int 2] Q ↔ Q (false, .int j.d) := by
  unfold jobD
  rw [Wo_idxT, atD_2, kd_some]
end
theorem Wo_meas0 {M : Meas} {Q : Bool × PyData → Prop} : Wo .idx [measD M, .int 0] Q ↔ Q (false, .str M.way) := by
  unfold measD
  rw [Wo_idxT, atD_0, kd_some]
theorem Wo_meas1 {M : Meas} {Q : Bool × PyData → Prop} : Wo .idx [measD M, .int 1] Q ↔ Q (false, .tuple M.costs) := by
  unfold measD
  rw [Wo_idxT, atD_1, kd_some]
/-- the greatest one -/
def maxL : List Int → Int
  | [] => 0
  | x :: xs => xs.foldl (fun a y => if a < y then y else a) x
def Meas.cost (M : Meas) (j : Job) (e : Int) : Int := match M with
  | .late ws => if j.d < e then ws.getD j.k 0 else 0
  | .terms _ cs => maxL ((cs.getD j.k []).map fun t => t.1 * e + t.2 * j.d)
def keyOf (rs : List (Int × Int)) (j : Job) : Int := (rs.getD j.k (0, 0)).1 * j.p + (rs.getD j.k (0, 0)).2 * j.d
def big (i : Int) : Prop := -100000000000000000000000000000000000000000000000000 < i ∧ i < 100000000000000000000000000000000000000000000000000
def bigs (rs : List (Int × Int)) : Prop := ∀ r ∈ rs, big r.1 ∧ big r.2
theorem alike_ints : ∀ zs : List Int, alikeD (zs.map .int) = true := by
  intro zs
  unfold alikeD
  rw [List.all_eq_true]
  intro x hx
  rw [List.all_eq_true]
  intro y hy
  obtain ⟨a, _, rfl⟩ := List.mem_map.mp hx
  obtain ⟨b, _, rfl⟩ := List.mem_map.mp hy
  rfl
theorem okDs_ints (zs : List Int) : okDs (zs.map .int) = true := by
  have : PyData.plainAll (zs.map .int) = true ∧ PyData.depthAll (zs.map .int) = 0 := by
    induction zs with
    | nil => exact ⟨rfl, rfl⟩
    | cons x xs ih =>
      rw [List.map_cons, PyData.plainAll, PyData.depthAll, ih.1, ih.2]
      exact ⟨rfl, rfl⟩
  unfold okDs
  rw [this.1, this.2]
  rfl
theorem cmpOk_ints (zs : List Int) : cmpOk (zs.map .int) = true := by
  unfold cmpOk
  rw [alike_ints, okDs_ints]
  simp [isNone]
theorem max_ints (z : Int) (zs : List Int) : bests (fun y a => PySem.W.dataLt a y) ((z :: zs).map .int) = some (.int (maxL (z :: zs))) := by
  have : ∀ (zs : List Int) (z : Int), (zs.map PyData.int).foldl (fun a y => if PySem.W.dataLt a y then y else a) (.int z) = .int (zs.foldl (fun a y => if a < y then y else a) z) := by
    intro zs
    induction zs with
    | nil => intro z; rfl
    | cons x xs ih =>
      intro z
      rw [List.map_cons, List.foldl_cons, List.foldl_cons, PySem.W.dataLt_int]
      by_cases h : z < x
      · rw [if_pos (decide_eq_true h), if_pos h, ih]
      · rw [if_neg (by simpa using h), if_neg h, ih]
  rw [List.map_cons, bests, this]
  rfl
theorem Wo_max_ints {zs : List Int} {Q : Bool × PyData → Prop} (h : zs ≠ []) : Wo .max1 [.list (zs.map .int)] Q ↔ Q (false, .int (maxL zs)) := by
  rw [Wo_max1, cmpOk_ints]
  cases zs with
  | nil => exact (h rfl).elim
  | cons z zs =>
    rw [max_ints, kd_some]
    simp
theorem kd_max_ints {zs : List Int} {k : PyData → Prop} (h : zs ≠ []) : kd (bests (fun y a => PySem.W.dataLt a y) (zs.map .int)) k ↔ k (.int (maxL zs)) := by
  cases zs with
  | nil => exact (h rfl).elim
  | cons z zs => rw [max_ints, kd_some]
theorem flatMap_one {α β : Type} (xs : List α) (g : α → β) : (xs.flatMap fun x => [g x]) = xs.map g := by
  induction xs with
  | nil => rfl
  | cons x xs ih => rw [List.flatMap_cons, ih]; rfl
theorem atD_map {α : Type} {g : α → PyData} {xs : List α} {n : Nat} {x : α} (h : xs[n]? = some x) : atD (xs.map g) (n : Int) = some (g x) := by
  rw [atD_ofNat, List.getElem?_map, h]
  rfl
def S_cost (T : List Fn) (f : Nat) : Prop := MuT T f = [false, false, false] ∧ ∀ (n : Nat) (M : Meas) (j : Job) (e : Int), M.ok → j.k < M.kinds → Wc (run T (n + 1)) f [(false, measD M), (false, jobD j), (false, .int e)] fun r fin => r = (false, .int (M.cost j e)) ∧ fin = []
def S_key (T : List Fn) (f : Nat) : Prop := MuT T f = [false, false] ∧ ∀ (n : Nat) (rs : List (Int × Int)) (j : Job), bigs rs → big j.p → big j.d → j.k < rs.length → Wc (run T (n + 1)) f [(false, pairsD rs), (false, jobD j)] fun r fin => r = (false, .int (keyOf rs j)) ∧ fin = []
def fn_cost : Fn := ⟨"cost", [false, false, false], 7,
  (.cons (.par [.tg (.var 3), .tg (.var 4)] (.cons (.op .idx (.cons (.op .idx (.cons (.var 0) (.cons (.cst (.int 1)) .nil))) (.cons (.op .idx (.cons (.var 1) (.cons (.cst (.int 0)) .nil))) .nil))) (.cons (.op .idx (.cons (.var 1) (.cons (.cst (.int 2)) .nil))) .nil)))
  (.cons (.ite (.op (.cmp .eq) (.cons (.op .idx (.cons (.var 0) (.cons (.cst (.int 0)) .nil))) (.cons (.cst (.str "late")) .nil)))
    (.cons (.ret (.ite (.op (.cmp .gt) (.cons (.var 2) (.cons (.var 4) .nil))) (.var 3) (.cst (.int 0))))
    .nil)
    .nil)
  (.cons (.ret (.op .max1 (.cons (.comp [5, 6] (.op (.bin .add) (.cons (.op (.bin .mul) (.cons (.var 5) (.cons (.var 2) .nil))) (.cons (.op (.bin .mul) (.cons (.var 6) (.cons (.var 4) .nil))) .nil))) (.last (.tup (.cons (.var 5) (.cons (.var 6) .nil))) (.val (.var 3)) .nil)) .nil)))
  .nil)))⟩
def fn_key : Fn := ⟨"key", [false, false], 4,
  (.cons (.asg (.tup (.cons (.var 2) (.cons (.var 3) .nil))) (.op .idx (.cons (.var 0) (.cons (.op .idx (.cons (.var 1) (.cons (.cst (.int 0)) .nil))) .nil))))
  (.cons (.ret (.op (.bin .add) (.cons (.op (.bin .mul) (.cons (.var 2) (.cons (.op .idx (.cons (.var 1) (.cons (.cst (.int 1)) .nil))) .nil))) (.cons (.op (.bin .mul) (.cons (.var 3) (.cons (.op .idx (.cons (.var 1) (.cons (.cst (.int 2)) .nil))) .nil))) .nil))))
  .nil))⟩
def fn_law_cost : Fn := ⟨"_law_cost", [false, false, false], 6,
  (.cons (.asg (.var 3) (.op .idx (.cons (.op .idx (.cons (.var 0) (.cons (.cst (.int 1)) .nil))) (.cons (.op .idx (.cons (.var 1) (.cons (.cst (.int 0)) .nil))) .nil))))
  (.cons (.ite (.op (.cmp .eq) (.cons (.op .idx (.cons (.var 0) (.cons (.cst (.int 0)) .nil))) (.cons (.cst (.str "late")) .nil)))
    (.cons (.ret (.ite (.op (.cmp .gt) (.cons (.var 2) (.cons (.op .idx (.cons (.var 1) (.cons (.cst (.int 2)) .nil))) .nil))) (.var 3) (.cst (.int 0))))
    .nil)
    .nil)
  (.cons (.ret (.op .max1 (.cons (.comp [4, 5] (.op (.bin .add) (.cons (.op (.bin .mul) (.cons (.var 4) (.cons (.var 2) .nil))) (.cons (.op (.bin .mul) (.cons (.var 5) (.cons (.op .idx (.cons (.var 1) (.cons (.cst (.int 2)) .nil))) .nil))) .nil))) (.last (.tup (.cons (.var 4) (.cons (.var 5) .nil))) (.val (.var 3)) .nil)) .nil)))
  .nil)))⟩
def fn_law_key : Fn := ⟨"_law_key", [false, false], 2,
  (.cons (.ret (.op (.bin .add) (.cons (.op (.bin .mul) (.cons (.op .idx (.cons (.op .idx (.cons (.var 0) (.cons (.op .idx (.cons (.var 1) (.cons (.cst (.int 0)) .nil))) .nil))) (.cons (.cst (.int 0)) .nil))) (.cons (.op .idx (.cons (.var 1) (.cons (.cst (.int 1)) .nil))) .nil))) (.cons (.op (.bin .mul) (.cons (.op .idx (.cons (.op .idx (.cons (.var 0) (.cons (.op .idx (.cons (.var 1) (.cons (.cst (.int 0)) .nil))) .nil))) (.cons (.cst (.int 1)) .nil))) (.cons (.op .idx (.cons (.var 1) (.cons (.cst (.int 2)) .nil))) .nil))) .nil))))
  .nil)⟩
theorem mulOk_s {i j : Int} (h : small i) : mulOk i j = true := mulOk_l (by have := h.1; omega) (by have := h.2; omega)
theorem mulOk_b {i j : Int} (h : big i) (h2 : big j) : mulOk i j = true := mulOk_big h.1 h.2 h2.1 h2.2
theorem termsOk.ne {ts : List (Int × Int)} (h : termsOk ts) : ts ≠ [] := by
  rintro rfl
  obtain ⟨⟨a, h | ⟨b, h, _⟩⟩, _⟩ := h <;> cases h
theorem termsOk.len {ts : List (Int × Int)} (h : termsOk ts) : ts.length ≤ 2 := by
  obtain ⟨⟨a, h | ⟨b, h, _⟩⟩, _⟩ := h <;> subst h <;> simp
theorem cost_S {T : List Fn} {f : Nat} (h : T[f]? = some fn_cost) : S_cost T f := by
  refine ⟨MuT_of h, fun n M j e hM hj => ?_⟩
  refine Wc_of h rfl ?_
  cases M with
  | late ws =>
    have hj : j.k < ws.length := hj
    have e1 : (Meas.late ws).way = sLate := rfl
    have e2 : (Meas.late ws).costs = ws.map .int := rfl
    have e3 := atD_map (g := PyData.int) (List.getElem?_eq_getElem hj)
    unfold measD jobD
    rw [e1, e2]
    walk_at "mq"
    rw [e3]
    walk_at "mq"
    have e4 : ws.getD j.k 0 = ws[j.k] := by simp [hj]
    refine kite_d (fun h2 => ?_) (fun h2 => ?_)
    · walk_at "mq"
      unfold Meas.cost
      simp only [if_pos h2, e4]
    · walk_at "mq"
      unfold Meas.cost
      simp only [if_neg h2]
  | terms mx cs =>
    have hj : j.k < cs.length := hj
    have hok := hM (cs[j.k]) (List.getElem_mem hj)
    have e2 : (Meas.terms mx cs).costs = cs.map pairsD := rfl
    have e3 := atD_map (g := pairsD) (List.getElem?_eq_getElem hj)
    have e4 : cs.getD j.k [] = cs[j.k] := by simp [hj]
    have e5 : ((Meas.terms mx cs).way = sLate) = False := by
      cases mx
      · exact lateNe1
      · exact lateNe2
    unfold measD jobD
    rw [e2]
    walk_at "mq"
    rw [e3]
    unfold pairsD
    walk_at "mq"
    simp only [e5]
    walk_at "mq"
    refine Wk_pure2 (fun y => match y with
      | .tuple [.int a, .int b] => [.int (a * e + b * j.d)]
      | _ => []) (fun y hy o o2 => ?_) ?_
    · obtain ⟨⟨a, b⟩, ht, rfl⟩ := List.mem_map.mp hy
      have hs := hok.2 _ ht
      unfold pairD
      walk_at "mq"
      exact ⟨mulOk_s hs.1, mulOk_s hs.2, _, _, rfl⟩
    · have e6 : ((cs[j.k].map pairD).flatMap fun y => match y with
        | .tuple [.int a, .int b] => [PyData.int (a * e + b * j.d)]
        | _ => []) = (cs[j.k].map fun t => t.1 * e + t.2 * j.d).map .int := by
        rw [List.flatMap_map]
        simp only [pairD, flatMap_one, List.map_map]
        rfl
      rw [e6]
      refine ⟨szOk_of (by rw [List.length_map, List.length_map]; have := hok.len; omega), ?_⟩
      walk_at "mq"
      rw [cmpOk_ints, kd_max_ints (by simpa using hok.ne)]
      refine ⟨rfl, ?_⟩
      unfold Meas.cost
      simp only [e4]
theorem key_S {T : List Fn} {f : Nat} (h : T[f]? = some fn_key) : S_key T f := by
  refine ⟨MuT_of h, fun n rs j hb hp hd hj => ?_⟩
  refine Wc_of h rfl ?_
  have e3 := atD_map (g := pairD) (List.getElem?_eq_getElem hj)
  have e4 : rs.getD j.k (0, 0) = rs[j.k] := by simp [hj]
  have hr := hb _ (List.getElem_mem hj)
  unfold pairsD jobD
  walk_at "mq"
  rw [e3]
  unfold pairD
  walk_at "mq"
  refine ⟨mulOk_b hr.1 hp, mulOk_b hr.2 hd, ?_⟩
  unfold keyOf
  simp only [e4]
theorem law_cost_S {T : List Fn} {f : Nat} (h : T[f]? = some fn_law_cost) : S_cost T f := by
  refine ⟨MuT_of h, fun n M j e hM hj => ?_⟩
  refine Wc_of h rfl ?_
  cases M with
  | late ws =>
    have hj : j.k < ws.length := hj
    have e1 : (Meas.late ws).way = sLate := rfl
    have e2 : (Meas.late ws).costs = ws.map .int := rfl
    have e3 := atD_map (g := PyData.int) (List.getElem?_eq_getElem hj)
    unfold measD jobD
    rw [e1, e2]
    walk_at "mq"
    rw [e3]
    walk_at "mq"
    have e4 : ws.getD j.k 0 = ws[j.k] := by simp [hj]
    refine kite_d (fun h2 => ?_) (fun h2 => ?_)
    · walk_at "mq"
      unfold Meas.cost
      simp only [if_pos h2, e4]
    · walk_at "mq"
      unfold Meas.cost
      simp only [if_neg h2]
  | terms mx cs =>
    have hj : j.k < cs.length := hj
    have hok := hM (cs[j.k]) (List.getElem_mem hj)
    have e2 : (Meas.terms mx cs).costs = cs.map pairsD := rfl
    have e3 := atD_map (g := pairsD) (List.getElem?_eq_getElem hj)
    have e4 : cs.getD j.k [] = cs[j.k] := by simp [hj]
    have e5 : ((Meas.terms mx cs).way = sLate) = False := by
      cases mx
      · exact lateNe1
      · exact lateNe2
    unfold measD jobD
    rw [e2]
    walk_at "mq"
    rw [e3]
    unfold pairsD
    walk_at "mq"
    simp only [e5]
    walk_at "mq"
    refine Wk_pure2 (fun y => match y with
      | .tuple [.int a, .int b] => [.int (a * e + b * j.d)]
      | _ => []) (fun y hy o o2 => ?_) ?_
    · obtain ⟨⟨a, b⟩, ht, rfl⟩ := List.mem_map.mp hy
      have hs := hok.2 _ ht
      unfold pairD
      walk_at "mq"
      exact ⟨mulOk_s hs.1, mulOk_s hs.2, _, _, rfl⟩
    · have e6 : ((cs[j.k].map pairD).flatMap fun y => match y with
        | .tuple [.int a, .int b] => [PyData.int (a * e + b * j.d)]
        | _ => []) = (cs[j.k].map fun t => t.1 * e + t.2 * j.d).map .int := by
        rw [List.flatMap_map]
        simp only [pairD, flatMap_one, List.map_map]
        rfl
      rw [e6]
      refine ⟨szOk_of (by rw [List.length_map, List.length_map]; have := hok.len; omega), ?_⟩
      walk_at "mq"
      rw [cmpOk_ints, kd_max_ints (by simpa using hok.ne)]
      refine ⟨rfl, ?_⟩
      unfold Meas.cost
      simp only [e4]
theorem law_key_S {T : List Fn} {f : Nat} (h : T[f]? = some fn_law_key) : S_key T f := by
  refine ⟨MuT_of h, fun n rs j hb hp hd hj => ?_⟩
  refine Wc_of h rfl ?_
  have e3 := atD_map (g := pairD) (List.getElem?_eq_getElem hj)
  have e4 : rs.getD j.k (0, 0) = rs[j.k] := by simp [hj]
  have hr := hb _ (List.getElem_mem hj)
  unfold pairsD jobD
  walk_at "mq"
  rw [e3]
  walk_at "mq"
  unfold pairD
  walk_at "mq"
  refine ⟨mulOk_b hr.1 hp, mulOk_b hr.2 hd, ?_⟩
  unfold keyOf
  simp only [e4]

local macro_rules | `(tactic| walk_at "tk") => `(tactic| (refine take_call ‹S_take _ _› ‹Pen _ _› (by omega) (by omega) (by omega) rfl rfl ?_; intro z p' hz0 hz1 hp'; walk_at "mq"))
local macro_rules | `(tactic| walk_at "oo") => `(tactic| (refine one_call ‹S_one_of _ _› ‹Pen _ _› (by omega) (by simp) (by simp) rfl rfl ?_; intro z p' hz hp'; walk_at "mq"))
local macro_rules | `(tactic| walk_at "mj") => `(tactic| (repeat (first | rw [Wo_job0] | rw [Wo_job1] | rw [Wo_job2] | rw [Wo_meas0] | rw [Wo_meas1]); walk_at "mq"))
local macro_rules | `(tactic| walk_at "en") => `(tactic| first | exact ⟨_, rfl⟩ | exact ⟨rfl, _, rfl⟩ | exact ⟨_, _, rfl⟩ | exact ⟨rfl, _, _, rfl⟩ | exact ⟨_, _, _, rfl⟩ | exact ⟨rfl, _, _, _, rfl⟩)

def Rp (w dp : Nat) (d : PyData) : Prop := d.showable = true ∧ d.leavesShort 60 = true ∧ d.weight ≤ w ∧ d.depth ≤ dp
theorem Rp.mono {w dp w' dp' : Nat} {d : PyData} (h : Rp w dp d) (h1 : w ≤ w') (h2 : dp ≤ dp') : Rp w' dp' d := ⟨h.1, h.2.1, Nat.le_trans h.2.2.1 h1, Nat.le_trans h.2.2.2 h2⟩
theorem Rp.int {i : Int} (h : big i) : Rp 201 0 (.int i) := by
  have h2 := log2_small h.1 h.2
  refine ⟨?_, ?_, ?_, Nat.le_refl _⟩
  · rw [PyData.showable]
    exact decide_eq_true (by omega)
  · rw [PyData.leavesShort]
    have e := int_text_length_le10 (a := i) (k := 50) (by decide) (by have := h.1; have := h.2; omega)
    refine decide_eq_true (Nat.le_trans ?_ (by decide : 51 ≤ 60))
    show (Str.ofString (toString i)).length ≤ 51
    rw [ofString_length]
    exact e
  · rw [PyData.weight]
    split <;> omega
theorem Rp.all {w dp : Nat} {xs : List PyData} (h : ∀ x ∈ xs, Rp w dp x) : PyData.showableAll xs = true ∧ PyData.leavesShortAll 60 xs = true ∧ PyData.weightAll xs ≤ xs.length * (w + 1) ∧ PyData.depthAll xs ≤ dp := by
  induction xs with
  | nil => exact ⟨rfl, rfl, by simp [PyData.weightAll], by simp [PyData.depthAll]⟩
  | cons x xs ih =>
    have i := ih fun y hy => h y (by simp [hy])
    have a := h x (by simp)
    refine ⟨?_, ?_, ?_, ?_⟩
    · rw [PyData.showableAll, a.1, i.1]; rfl
    · rw [PyData.leavesShortAll, a.2.1, i.2.1]; rfl
    · rw [PyData.weightAll, List.length_cons, Nat.add_mul]
      have := a.2.2.1
      have := i.2.2.1
      omega
    · rw [PyData.depthAll]
      have := a.2.2.2
      have := i.2.2.2
      omega
theorem Rp.tuple {w dp n : Nat} {xs : List PyData} (h : ∀ x ∈ xs, Rp w dp x) (hn : xs.length ≤ n) : Rp (n * (w + 1)) (dp + 1) (.tuple xs) := by
  have a := Rp.all h
  refine ⟨?_, ?_, ?_, ?_⟩
  · rw [PyData.showable]; exact a.1
  · rw [PyData.leavesShort]; exact a.2.1
  · rw [PyData.weight]
    exact Nat.le_trans a.2.2.1 (Nat.mul_le_mul hn (Nat.le_refl _))
  · rw [PyData.depth]
    have := a.2.2.2
    omega
theorem Rp.list {w dp n : Nat} {xs : List PyData} (h : ∀ x ∈ xs, Rp w dp x) (hn : xs.length ≤ n) : Rp (n * (w + 1)) (dp + 1) (.list xs) := by
  have a := Rp.all h
  refine ⟨?_, ?_, ?_, ?_⟩
  · rw [PyData.showable]; exact a.1
  · rw [PyData.leavesShort]; exact a.2.1
  · rw [PyData.weight]
    exact Nat.le_trans a.2.2.1 (Nat.mul_le_mul hn (Nat.le_refl _))
  · rw [PyData.depth]
    have := a.2.2.2
    omega
theorem Rp.ok {w dp : Nat} {d : PyData} (h : Rp w dp d) (hw : w ≤ 200000) (hd : dp ≤ 100) : (d.showable && (decide (d.depth ≤ 100) && szOk d.shown.length)) = true := by
  have := PyData.shown_le 60 (by decide) d h.2.1
  rw [h.1, decide_eq_true (show d.depth ≤ 100 by have := h.2.2.2; omega), szOk_of (by have := h.2.2.1; omega)]
  rfl
theorem Rp.way (M : Meas) : Rp 5 0 (.str M.way) := by
  cases M with
  | late ws =>
    show Rp 5 0 (.str sLate)
    exact ⟨rfl, by decide, by decide, by decide⟩
  | terms b cs =>
    cases b
    · show Rp 5 0 (.str sSum)
      exact ⟨rfl, by decide, by decide, by decide⟩
    · show Rp 5 0 (.str sMax)
      exact ⟨rfl, by decide, by decide, by decide⟩
theorem small.big {i : Int} (h : small i) : big i := ⟨by have := h.1; omega, by have := h.2; omega⟩
theorem Rp.pair {a : Int × Int} (h : big a.1) (h2 : big a.2) : Rp 404 1 (pairD a) := Rp.tuple (n := 2) (w := 201) (dp := 0) (by
  intro x hx
  simp only [List.mem_cons, List.not_mem_nil, or_false] at hx
  rcases hx with rfl | rfl
  · exact Rp.int h
  · exact Rp.int h2) (by simp)
theorem Rp.pairs {n : Nat} {ps : List (Int × Int)} (h : bigs ps) (hn : ps.length ≤ n) : Rp (n * 405) 2 (pairsD ps) := Rp.tuple (n := n) (w := 404) (dp := 1) (by
  intro x hx
  obtain ⟨a, ha, rfl⟩ := List.mem_map.mp hx
  exact Rp.pair (h a ha).1 (h a ha).2) (by simpa using hn)
theorem Rp.meas {M : Meas} (h : M.ok) (hk : M.kinds ≤ 3) : Rp 5000 4 (measD M) := by
  have c : ∀ x ∈ M.costs, Rp 810 2 x := by
    intro x hx
    cases M with
    | late ws =>
      obtain ⟨w, hw, rfl⟩ := List.mem_map.mp hx
      exact (Rp.int (by have := h w hw; unfold big; omega)).mono (by omega) (by omega)
    | terms b cs =>
      obtain ⟨ts, ht, rfl⟩ := List.mem_map.mp hx
      exact Rp.pairs (n := 2) (fun r hr => ⟨((h ts ht).2 r hr).1.big, ((h ts ht).2 r hr).2.big⟩) (h ts ht).len
  have l : M.costs.length ≤ 3 := by
    cases M with
    | late ws =>
      have hk : ws.length ≤ 3 := hk
      simpa [Meas.costs] using hk
    | terms b cs =>
      have hk : cs.length ≤ 3 := hk
      simpa [Meas.costs] using hk
  have t := Rp.tuple (n := 3) c l
  refine (Rp.tuple (n := 2) (w := 2433) (dp := 3) ?_ (by simp)).mono (by omega) (by omega)
  intro x hx
  simp only [List.mem_cons, List.not_mem_nil, or_false] at hx
  rcases hx with rfl | rfl
  · exact (Rp.way M).mono (by omega) (by omega)
  · exact t
def caseD (c : List Int) : PyData := .tuple (c.map .int)
theorem lt_case (a b : List Int) : PySem.W.dataLt (caseD a) (caseD b) = decide (a < b) := by
  unfold caseD
  rw [PySem.W.dataLt_tuple]
  exact PySem.W.dataLt_ints a b
theorem sortI_eq {rows out : List (List Int)} (hp : out.Perm rows) (hs : out.Pairwise fun a b => a ≤ b) : sortD (rows.map caseD) = out.map caseD := by
  have e : sortD (rows.map caseD) = (rows.mergeSort fun a b => decide (a ≤ b)).map caseD := by
    unfold sortD
    refine (List.map_mergeSort (fun a _ b _ => ?_)).symm
    rw [lt_case]
    by_cases h : b < a
    · have : ¬ a ≤ b := fun z => z h
      simp [h, this]
    · have : a ≤ b := h
      simp [h, this]
  rw [e]
  congr 1
  refine List.Perm.eq_of_pairwise (le := fun a b => a ≤ b) (fun a b _ _ h1 h2 => List.le_antisymm h1 h2) ?_ hs ((List.mergeSort_perm _ _).trans hp.symm)
  have := List.pairwise_mergeSort (le := fun (a b : List Int) => decide (a ≤ b)) (fun a b c h1 h2 => by simp at h1 h2 ⊢; exact List.le_trans h1 h2) (fun a b => by simpa using List.le_total a b) rows
  exact this.imp (fun h => by simpa using h)
theorem alike_cases {n : Nat} : ∀ rows : List (List Int), (∀ r ∈ rows, r.length = n) → alikeD (rows.map caseD) = true := by
  have al : ∀ a b : List Int, PySem.W.alikeAll (a.map .int) (b.map .int) = true := by
    intro a
    induction a with
    | nil => intro b; simp [PySem.W.alikeAll]
    | cons x xs ih =>
      intro b
      cases b with
      | nil => simp [PySem.W.alikeAll]
      | cons y ys => simp [PySem.W.alikeAll, PySem.W.alike, ih]
  intro rows h
  unfold alikeD
  rw [List.all_eq_true]
  intro x hx
  rw [List.all_eq_true]
  intro y hy
  obtain ⟨a, _, rfl⟩ := List.mem_map.mp hx
  obtain ⟨b, _, rfl⟩ := List.mem_map.mp hy
  unfold caseD
  rw [PySem.W.alike]
  exact al a b
theorem sortOk_cases {n : Nat} {rows : List (List Int)} (h : ∀ r ∈ rows, r.length = n + 1) : sortOk (rows.map caseD) = true := by
  unfold sortOk
  rw [alike_cases (n := n + 1) rows h, Bool.true_and, Bool.or_eq_true]
  left
  rw [List.all_eq_true]
  intro x hx
  obtain ⟨a, ha, rfl⟩ := List.mem_map.mp hx
  have := h a ha
  cases a with
  | nil => simp at this
  | cons z zs => rfl
theorem okDs_cases (rows : List (List Int)) : okDs (rows.map caseD) = true := by
  have : PyData.plainAll (rows.map caseD) = true ∧ PyData.depthAll (rows.map caseD) ≤ 1 := by
    induction rows with
    | nil => exact ⟨rfl, by decide⟩
    | cons x xs ih =>
      have a : PyData.plainAll (x.map .int) = true ∧ PyData.depthAll (x.map .int) = 0 := by
        clear ih
        induction x with
        | nil => exact ⟨rfl, rfl⟩
        | cons y ys ih => rw [List.map_cons, PyData.plainAll, PyData.depthAll, ih.1, ih.2]; exact ⟨rfl, rfl⟩
      rw [List.map_cons, PyData.plainAll, PyData.depthAll, ih.1]
      unfold caseD
      rw [PyData.plain, PyData.depth, a.1, a.2]
      exact ⟨rfl, by have := ih.2; unfold caseD at this; omega⟩
  unfold okDs
  rw [this.1, Bool.true_and]
  exact decide_eq_true (by have := this.2; omega)
theorem Wf_run {Φ : Ph} {Mu : Nat → List Bool} {mp : List Nat} {t : Tg} {b : Sts} {xs : List PyData} {ρ ρ' : Env} {Q : Fl → Env → Prop} (h : loopF (tgB mp t fun ρ => execs Φ Mu mp b ρ) xs ρ = some (.nx, ρ')) (k : Q .nx ρ') : Wf Φ Mu mp t b xs ρ Q := ⟨_, _, h, k⟩
theorem getD_at {α : Type} {xs : List α} {i : Nat} {d : α} (h : i < xs.length) : xs.getD i d = xs[i] := by simp [h]
theorem flatMap_if {α β : Type} (xs : List α) (p : α → Bool) (g : α → β) : (xs.flatMap fun x => if p x then [g x] else []) = (xs.filter p).map g := by
  induction xs with
  | nil => rfl
  | cons x xs ih =>
    rw [List.flatMap_cons, ih, List.filter_cons]
    cases p x <;> rfl
theorem rngL_nat (n : Nat) : rngL 0 (n : Int) = (List.range n).map fun k => .int (k : Nat) := by
  unfold rngL
  rw [show ((n : Int) - 0).toNat = n by omega]
  congr 1
  funext k
  rw [Int.zero_add]
theorem flatMap_len {α β : Type} {m : Nat} {g : α → List β} : ∀ xs : List α, (∀ x ∈ xs, (g x).length ≤ m) → (xs.flatMap g).length ≤ xs.length * m := by
  intro xs
  induction xs with
  | nil => intro _; simp
  | cons x xs ih =>
    intro h
    rw [List.flatMap_cons, List.length_append, List.length_cons, Nat.add_mul, Nat.one_mul]
    have := h x (by simp)
    have := ih fun y hy => h y (by simp [hy])
    omega
def lotD (js : List Job) : PyData := .tuple (js.map jobD)
def ordD (os : List Nat) : PyData := .tuple (os.map fun (i : Nat) => .int i)
def jobAt (js : List Job) (i : Nat) : Job := js.getD i ⟨0, 0, 0⟩
theorem okD_ints (zs : List Int) : okD (.list (zs.map .int)) = true := by
  have : PyData.plainAll (zs.map .int) = true ∧ PyData.depthAll (zs.map .int) = 0 := by
    induction zs with
    | nil => exact ⟨rfl, rfl⟩
    | cons z zs ih => exact ⟨ih.1, by show max 0 (PyData.depthAll (zs.map .int)) = 0; rw [ih.2]; rfl⟩
  unfold okD PyData.plain PyData.depth
  rw [this.1, this.2]
  rfl
theorem sumI_ints : ∀ zs : List Int, sumI (zs.map .int) = some zs.sum
  | [] => rfl
  | z :: zs => by
    show (sumI (zs.map .int)).map (z + ·) = _
    rw [sumI_ints zs, List.sum_cons]
    rfl
theorem boolish_bools : ∀ bs : List Bool, boolish (bs.map .bool) = true
  | [] => rfl
  | b :: bs => boolish_bools bs
theorem all_bools : ∀ bs : List Bool, (bs.map PyData.bool).all PyData.truthy = bs.all id
  | [] => rfl
  | b :: bs => by
    rw [List.map_cons, List.all_cons, List.all_cons, all_bools bs]
    rfl
/-- ints in order -/
def inOrder (zs : List Int) : Bool := decide (zs.Pairwise fun a b => a ≤ b)
theorem sortZ (zs : List Int) : ∃ out : List Int, sortD (zs.map .int) = out.map .int ∧ out.Perm zs ∧ out.Pairwise fun a b => a ≤ b := by
  refine ⟨zs.mergeSort fun a b => decide (a ≤ b), ?_, List.mergeSort_perm _ _, ?_⟩
  · unfold sortD
    refine (List.map_mergeSort (fun a _ b _ => ?_)).symm
    rw [PySem.W.dataLt_int]
    by_cases h : b < a
    · have : ¬ a ≤ b := by omega
      simp [h, this]
    · have : a ≤ b := by omega
      simp [h, this]
  · have := List.pairwise_mergeSort (le := fun (a b : Int) => decide (a ≤ b)) (fun a b c h1 h2 => by simp at h1 h2 ⊢; omega) (fun a b => by simp; omega) zs
    exact this.imp (fun h => by simpa using h)
theorem sortOk_ints (zs : List Int) : sortOk (zs.map .int) = true := by
  unfold sortOk
  rw [alike_ints, Bool.true_and, Bool.true_and, Bool.or_eq_true]
  right
  rw [List.all_eq_true]
  intro x hx
  obtain ⟨a, _, rfl⟩ := List.mem_map.mp hx
  rfl
theorem eqv_ints : ∀ xs ys : List Int, (PyData.list (xs.map .int)).eqv (.list (ys.map .int)) = decide (xs = ys)
  | [], [] => rfl
  | [], y :: ys => rfl
  | x :: xs, [] => rfl
  | x :: xs, y :: ys => by
    have ih := eqv_ints xs ys
    rw [PyData.eqv] at ih ⊢
    rw [List.map_cons, List.map_cons, PyData.eqvAll, ih]
    by_cases h : x = y
    · subst h
      simp [PyData.eqv]
    · simp [PyData.eqv, h]
theorem inOrder_eq (zs : List Int) : ∃ out : List Int, sortD (zs.map .int) = out.map .int ∧ decide (zs = out) = inOrder zs := by
  obtain ⟨out, h1, h2, h3⟩ := sortZ zs
  refine ⟨out, h1, ?_⟩
  unfold inOrder
  by_cases h : zs.Pairwise fun a b => a ≤ b
  · rw [decide_eq_true h]
    exact decide_eq_true (List.Perm.eq_of_pairwise (le := fun a b => a ≤ b) (fun a b _ _ h1 h2 => by omega) h h3 h2.symm)
  · rw [decide_eq_false h]
    exact decide_eq_false fun e => h (by rw [e]; exact h3)
/-- plain and not deep -/
def Pl (n : Nat) (d : PyData) : Prop := d.plain = true ∧ d.depth ≤ n
theorem Pl_all {n : Nat} : ∀ {xs : List PyData}, (∀ x ∈ xs, Pl n x) → PyData.plainAll xs = true ∧ PyData.depthAll xs ≤ n
  | [], _ => ⟨rfl, Nat.zero_le _⟩
  | x :: xs, h => by
    have ih := Pl_all fun y hy => h y (List.mem_cons_of_mem x hy)
    have hx := h x List.mem_cons_self
    rw [PyData.plainAll, PyData.depthAll, ih.1, hx.1]
    exact ⟨rfl, Nat.max_le.mpr ⟨hx.2, ih.2⟩⟩
theorem Pl_tuple {n : Nat} {xs : List PyData} (h : ∀ x ∈ xs, Pl n x) : Pl (n + 1) (.tuple xs) := by
  have := Pl_all h
  unfold Pl PyData.plain PyData.depth
  exact ⟨this.1, by omega⟩
theorem okD_list {xs : List PyData} (h : ∀ x ∈ xs, Pl 10 x) : okD (.list xs) = true := by
  have := Pl_all h
  unfold okD PyData.plain PyData.depth
  rw [this.1, decide_eq_true (by omega)]
  rfl
theorem ii_lt (a b : Int × Int) : PySem.W.dataLt (pairD a) (pairD b) = decide (a.1 < b.1 ∨ (a.1 = b.1 ∧ a.2 < b.2)) := PySem.W.dataLt_ii _ _ _ _
theorem okDs_pairs : ∀ ts : List (Int × Int), okDs (ts.map pairD) = true ∧ PyData.depthAll (ts.map pairD) ≤ 1 := by
  intro ts
  have : PyData.plainAll (ts.map pairD) = true ∧ PyData.depthAll (ts.map pairD) ≤ 1 := by
    induction ts with
    | nil => exact ⟨rfl, by decide⟩
    | cons x xs ih =>
      rw [List.map_cons, PyData.plainAll, PyData.depthAll, ih.1]
      refine ⟨rfl, ?_⟩
      have : PyData.depth (pairD x) = 1 := rfl
      rw [this]
      omega
  refine ⟨?_, this.2⟩
  unfold okDs
  rw [this.1, Bool.true_and]
  exact decide_eq_true (by omega)
theorem eqv_pair (a b : Int × Int) : PyData.eqv (pairD a) (pairD b) = decide (a = b) := by
  obtain ⟨a1, a2⟩ := a
  obtain ⟨b1, b2⟩ := b
  unfold pairD
  simp only [PyData.eqv, PyData.eqvAll, Bool.and_true]
  by_cases h : a1 = b1 <;> by_cases h2 : a2 = b2 <;> simp [h, h2]
theorem okD_pair (a : Int × Int) : okD (pairD a) = true := rfl
/-! ### small data -/
theorem Pl_int (i : Int) : Pl 0 (.int i) := ⟨by rw [PyData.plain], by rw [PyData.depth]; omega⟩
theorem Pl_bool (i : Bool) : Pl 0 (.bool i) := ⟨by rw [PyData.plain], by rw [PyData.depth]; omega⟩
theorem Pl_none : Pl 0 .none := ⟨by rw [PyData.plain], by rw [PyData.depth]; omega⟩
theorem Pl_str (s : Str) : Pl 0 (.str s) := ⟨by rw [PyData.plain], by rw [PyData.depth]; omega⟩
theorem Pl.mono {n m : Nat} {d : PyData} (h : Pl n d) (k : n ≤ m) : Pl m d := ⟨h.1, Nat.le_trans h.2 k⟩
theorem Pl_list {n : Nat} {xs : List PyData} (h : ∀ x ∈ xs, Pl n x) : Pl (n + 1) (.list xs) := by
  have := Pl_all h
  unfold Pl PyData.plain PyData.depth
  exact ⟨this.1, by omega⟩
theorem Pl.ok {n : Nat} {d : PyData} (h : Pl n d) (k : n ≤ 100) : okD d = true := by
  unfold okD
  rw [h.1, decide_eq_true (Nat.le_trans h.2 k)]
  rfl
theorem Pl_oks {n : Nat} {xs : List PyData} (h : ∀ x ∈ xs, Pl n x) (k : n ≤ 100) : okDs xs = true := by
  have := Pl_all h
  unfold okDs
  rw [this.1, decide_eq_true (Nat.le_trans this.2 k)]
  rfl
theorem Pl_tupI (zs : List Int) : Pl 1 (.tuple (zs.map .int)) := Pl_tuple fun x hx => by
  obtain ⟨i, _, rfl⟩ := List.mem_map.mp hx
  exact Pl_int i
theorem Pl_job (j : Job) : Pl 1 (jobD j) := Pl_tupI [j.k, j.p, j.d]
theorem Pl_lot (js : List Job) : Pl 2 (lotD js) := Pl_tuple fun x hx => by
  obtain ⟨i, _, rfl⟩ := List.mem_map.mp hx
  exact Pl_job i
theorem Pl_ord (os : List Nat) : Pl 1 (ordD os) := Pl_tuple fun x hx => by
  obtain ⟨i, _, rfl⟩ := List.mem_map.mp hx
  exact Pl_int i
theorem okDs_nats (os : List Nat) : okDs (os.map fun (i : Nat) => PyData.int i) = true := Pl_oks (n := 0) (fun x hx => by
  obtain ⟨i, _, rfl⟩ := List.mem_map.mp hx
  exact Pl_int i) (by omega)
theorem okD_int (i : Int) : okD (.int i) = true := rfl
theorem isin_nat (k : Nat) (os : List Nat) : ((os.map fun (i : Nat) => PyData.int i).any fun y => PyData.eqv y (.int k)) = decide (k ∈ os) := by
  rw [List.any_map]
  induction os with
  | nil => rfl
  | cons o os ih =>
    rw [List.any_cons, ih]
    by_cases h : k = o
    · subst h
      simp [PyData.eqv]
    · have : ¬ (o : Int) = k := by omega
      simp [PyData.eqv, h, this]
theorem okDs_ints' (zs : List Int) : okDs (zs.map fun (i : Int) => PyData.int i) = true := okDs_ints zs
theorem isin_int (k : Int) (zs : List Int) : ((zs.map PyData.int).any fun y => PyData.eqv y (.int k)) = decide (k ∈ zs) := by
  rw [List.any_map]
  induction zs with
  | nil => rfl
  | cons o os ih =>
    rw [List.any_cons, ih]
    by_cases h : k = o
    · subst h
      simp [PyData.eqv]
    · have : ¬ o = k := fun e => h e.symm
      simp [PyData.eqv, h, this]
theorem sortD_nat (os : List Nat) : sortD (os.map fun (i : Nat) => PyData.int i) = (os.mergeSort fun a b => decide (a ≤ b)).map fun (i : Nat) => PyData.int i := by
  unfold sortD
  refine (List.map_mergeSort (fun a _ b _ => ?_)).symm
  rw [PySem.W.dataLt_int]
  by_cases h : b < a
  · have h2 : ¬ a ≤ b := by omega
    have h3 : (b : Int) < a := by omega
    simp [h2, h3]
  · have h2 : a ≤ b := by omega
    have h3 : ¬ (b : Int) < a := by omega
    simp [h2, h3]
theorem sortOk_nats (os : List Nat) : sortOk (os.map fun (i : Nat) => PyData.int i) = true := by
  have := sortOk_ints (os.map fun (i : Nat) => (i : Int))
  rwa [List.map_map] at this
def sortN (os : List Nat) : List Nat := os.mergeSort fun a b => decide (a ≤ b)
theorem sortN_perm (os : List Nat) : (sortN os).Perm os := List.mergeSort_perm _ _
theorem sortN_sorted (os : List Nat) : (sortN os).Pairwise fun a b => a ≤ b := by
  have := List.pairwise_mergeSort (le := fun (a b : Nat) => decide (a ≤ b)) (fun a b c h1 h2 => by simp at h1 h2 ⊢; omega) (fun a b => by simp; omega) os
  exact this.imp fun h => by simpa using h
theorem sortN_range {os : List Nat} {n : Nat} (h : os.Perm (List.range n)) : sortN os = List.range n := by
  refine List.Perm.eq_of_pairwise (le := fun a b => a ≤ b) (fun a b _ _ h1 h2 => by omega) (sortN_sorted os) ?_ ((sortN_perm os).trans h)
  exact (List.pairwise_lt_range).imp fun h => Nat.le_of_lt h
theorem eqv_nats_l : ∀ xs ys : List Nat, (PyData.list (xs.map fun (i : Nat) => PyData.int i)).eqv (.list (ys.map fun (i : Nat) => PyData.int i)) = decide (xs = ys)
  | [], [] => rfl
  | [], y :: ys => rfl
  | x :: xs, [] => rfl
  | x :: xs, y :: ys => by
    have ih := eqv_nats_l xs ys
    rw [PyData.eqv] at ih ⊢
    rw [List.map_cons, List.map_cons, PyData.eqvAll, ih]
    by_cases h : x = y
    · subst h
      simp [PyData.eqv]
    · have : ¬ (x : Int) = y := by omega
      simp [PyData.eqv, h, this]
theorem eqv_nats : ∀ xs ys : List Nat, (ordD xs).eqv (ordD ys) = decide (xs = ys) := fun xs ys => by
  have := eqv_nats_l xs ys
  unfold ordD
  simpa only [PyData.eqv] using this
theorem jobAt_get {js : List Job} {i : Nat} (h : i < js.length) : jobAt js i = js[i] := getD_at h
theorem zipIdx_range {β : Type} (F : Job × Nat → β) (js : List Job) : js.zipIdx.map F = (List.range js.length).map fun i => F (jobAt js i, i) := by
  apply List.ext_getElem
  · simp
  · intro i h1 h2
    have hi : i < js.length := by simpa using h1
    simp [jobAt, hi]
theorem atD_job {js : List Job} {i : Nat} (h : i < js.length) : atD (js.map jobD) (i : Int) = some (jobD (jobAt js i)) := by
  rw [atD_ty jobD h, jobAt_get h]
/-- the greatest pair -/
theorem bests_pair : ∀ (zs : List (Int × Int)), zs ≠ [] → ∃ z ∈ zs, bests (fun y a => PySem.W.dataLt a y) (zs.map pairD) = some (pairD z) ∧ ∀ w ∈ zs, ¬ (z.1 < w.1 ∨ (z.1 = w.1 ∧ z.2 < w.2)) := by
  intro zs hz
  cases zs with
  | nil => exact (hz rfl).elim
  | cons z zs =>
    rw [List.map_cons, bests]
    suffices ∀ (zs : List (Int × Int)) (z : Int × Int), ∃ w, (zs.map pairD).foldl (fun a y => if PySem.W.dataLt a y then y else a) (pairD z) = pairD w ∧ w ∈ z :: zs ∧ ∀ v ∈ z :: zs, ¬ (w.1 < v.1 ∨ (w.1 = v.1 ∧ w.2 < v.2)) by
      obtain ⟨w, h1, h2, h3⟩ := this zs z
      exact ⟨w, h2, by rw [h1], h3⟩
    intro zs
    induction zs with
    | nil =>
      intro z
      refine ⟨z, rfl, by simp, fun v hv => ?_⟩
      rw [List.mem_singleton] at hv
      subst hv
      omega
    | cons x xs ih =>
      intro z
      rw [List.map_cons, List.foldl_cons, ii_lt]
      by_cases h : z.1 < x.1 ∨ (z.1 = x.1 ∧ z.2 < x.2)
      · rw [if_pos (decide_eq_true h)]
        obtain ⟨w, h1, h2, h3⟩ := ih x
        refine ⟨w, h1, List.mem_cons_of_mem _ h2, fun v hv => ?_⟩
        rcases List.mem_cons.mp hv with rfl | hv
        · have := h3 x (by simp)
          omega
        · exact h3 v hv
      · rw [if_neg (by simpa using h)]
        obtain ⟨w, h1, h2, h3⟩ := ih z
        refine ⟨w, h1, ?_, fun v hv => ?_⟩
        · rcases List.mem_cons.mp h2 with h2 | h2
          · rw [h2]; simp
          · simp [h2]
        · rcases List.mem_cons.mp hv with rfl | hv
          · exact h3 v (by simp)
          · rcases List.mem_cons.mp hv with rfl | hv
            · have := h3 z (by simp)
              omega
            · exact h3 v (by simp [hv])
theorem alike_pairs (zs : List (Int × Int)) : alikeD (zs.map pairD) = true := by
  have := alike_cases (n := 2) (zs.map fun z => [z.1, z.2]) (fun r hr => by
    obtain ⟨z, _, rfl⟩ := List.mem_map.mp hr
    rfl)
  rwa [List.map_map] at this
theorem cmpOk_pairs (zs : List (Int × Int)) : cmpOk (zs.map pairD) = true := by
  unfold cmpOk
  rw [alike_pairs, (okDs_pairs zs).1]
  rw [Bool.true_and, Bool.true_and, List.all_eq_true]
  intro x hx
  obtain ⟨z, _, rfl⟩ := List.mem_map.mp hx
  rfl
/-- the greatest -/
theorem maxL_spec : ∀ (zs : List Int), zs ≠ [] → maxL zs ∈ zs ∧ ∀ z ∈ zs, z ≤ maxL zs := by
  have go : ∀ (zs : List Int) (z : Int), (zs.foldl (fun a y => if a < y then y else a) z = z ∨ zs.foldl (fun a y => if a < y then y else a) z ∈ zs) ∧ z ≤ zs.foldl (fun a y => if a < y then y else a) z ∧ ∀ x ∈ zs, x ≤ zs.foldl (fun a y => if a < y then y else a) z := by
    intro zs
    induction zs with
    | nil => intro z; exact ⟨.inl rfl, Int.le_refl _, fun x hx => by simp at hx⟩
    | cons y ys ih =>
      intro z
      rw [List.foldl_cons]
      by_cases h : z < y
      · rw [if_pos h]
        obtain ⟨h1, h2, h3⟩ := ih y
        refine ⟨.inr ?_, by omega, fun x hx => ?_⟩
        · rcases h1 with h1 | h1
          · rw [h1]; exact List.mem_cons_self
          · exact List.mem_cons_of_mem _ h1
        · rcases List.mem_cons.mp hx with rfl | hx
          · exact h2
          · exact h3 x hx
      · rw [if_neg h]
        obtain ⟨h1, h2, h3⟩ := ih z
        refine ⟨?_, h2, fun x hx => ?_⟩
        · rcases h1 with h1 | h1
          · exact .inl h1
          · exact .inr (List.mem_cons_of_mem _ h1)
        · rcases List.mem_cons.mp hx with rfl | hx
          · omega
          · exact h3 x hx
  intro zs hz
  cases zs with
  | nil => exact absurd rfl hz
  | cons y ys =>
    obtain ⟨h1, h2, h3⟩ := go ys y
    have em : maxL (y :: ys) = ys.foldl (fun a y => if a < y then y else a) y := rfl
    rw [em]
    refine ⟨?_, fun x hx => ?_⟩
    · rcases h1 with h1 | h1
      · rw [h1]; exact List.mem_cons_self
      · exact List.mem_cons_of_mem _ h1
    · rcases List.mem_cons.mp hx with rfl | hx
      · exact h2
      · exact h3 x hx
theorem false_in {α : Type} (b : α → Bool) (xs : List α) : ((xs.map fun x => PyData.bool (b x)).any fun y => PyData.eqv y (.bool false)) = !xs.all b := by
  rw [List.any_map]
  induction xs with
  | nil => rfl
  | cons x xs ih =>
    rw [List.any_cons, List.all_cons, ih]
    simp only [Function.comp]
    cases b x <;> simp [PyData.eqv]
theorem okDs_boolT {α : Type} (b : α → Bool) (xs : List α) : okDs (xs.map fun x => PyData.bool (b x)) = true := Pl_oks (n := 0) (fun x hx => by
  obtain ⟨i, _, rfl⟩ := List.mem_map.mp hx
  exact Pl_bool _) (by omega)
theorem okD_natsL (os : List Nat) : okD (.list (os.map fun (i : Nat) => PyData.int i)) = true := (Pl_list (n := 0) fun x hx => by
  obtain ⟨i, _, rfl⟩ := List.mem_map.mp hx
  exact Pl_int _).ok (by omega)
theorem okD_nil : okD (.list []) = true := rfl
theorem rep_one (m : Nat) (d : PyData) : (List.replicate m [d]).flatten = List.replicate m d := by
  induction m with
  | zero => rfl
  | succ n ih => rw [List.replicate_succ, List.flatten_cons, ih]; rfl
theorem zip_mem {g h : List PyData} {y : PyData} (hy : y ∈ ((g.zip h).map fun p => [p.1, p.2]).map PyData.tuple) : ∃ a b, y = .tuple [a, b] ∧ (a, b) ∈ g.zip h := by
  simp only [List.map_map, List.mem_map] at hy
  obtain ⟨⟨a, b⟩, hm, rfl⟩ := hy
  exact ⟨a, b, rfl, hm⟩

local macro_rules | `(tactic| walk_at "mrp") => `(tactic| simp only [We_var, We_cst, We_glb, Wes_nil, Wes_cons, We_op, We_and, We_or, Wb_last, Wb_and, Wb_or, We_ite, We_chain, We_slice, We_call, We_meth, We_comp1, We_comp2, Wi_val, Wi_rng, Wi_enm, Wi_zip, Wss_nil, Wss_cons, Ws_exp, Ws_asg, Ws_par, Ws_ret, Ws_ret0, Ws_pass, Ws_brk, Ws_cont, Ws_ite, Ws_for, Ws_while, Ws_set, Ws_aug, Ws_aset, Ws_forO, kd_sub, kd_subO, Wb_nil, ↓We_var, ↓We_cst, ↓We_glb, ↓Wes_nil, ↓Wes_cons, ↓We_op, ↓We_and, ↓We_or, ↓Wb_last, ↓Wb_and, ↓Wb_or, ↓We_ite, ↓We_chain, ↓We_slice, ↓We_call, ↓We_meth, ↓We_comp1, ↓We_comp2, ↓Wi_val, ↓Wi_rng, ↓Wi_enm, ↓Wi_zip, ↓Wss_nil, ↓Wss_cons, ↓Ws_exp, ↓Ws_asg, ↓Ws_par, ↓Ws_ret, ↓Ws_ret0, ↓Ws_pass, ↓Ws_brk, ↓Ws_cont, ↓Ws_ite, ↓Ws_for, ↓Ws_while, ↓Ws_set, ↓Ws_aug, ↓Ws_aset, ↓Ws_forO, ↓Wb_nil,
  kd_some, kd_map, kd_bind, kb_bool, kite_t, kite_f, kite_n, knx_nx, knx_ct, knx_br, knx_rt, kturn_nx, kturn_ct, kturn_br, kturn_rt, slR_t, slR_f, slB_t, valOf_sh, valOf_own, valOf_borC, valsOf_nil, valsOf_cons, fzE_t, fzE_f, frzR_sh, frzR_own, frzR_bor, frzRs_nil, frzRs_cons, fixB_sh, fixB_own, fixB_bor, fxB_t, fxB_f, mkR_f, mkR_t, asSeq_l, asSeq_t,
  asgV_sh, asgV_own, asgV_bor, asgR_var, asgR_tup, asgT_var, asgT_t, asgT_l, asgTs_nil, asgTs_cons, putAll_nil, putAll_cons, wipe_nil, wipe_cons, fxR_nil, fxR_sh, fxR_own, fxR_bor, notB_nil, notB_sh, notB_own, notB_bor, fz_nil, fz_t, fz_f, mutPl_nil, mutPl_t, mutPl_f, finals_nil, finals_cons, partI_nil, partI_int, stE_tup, stE_lst, stE_bin_, stE_neg_, stE_not_, stE_cmp_, stE_isN_, stE_nisN_, stE_isB_, stE_len_, stE_isa_, stE_int_, stE_tuple_, stE_list_, stE_sum_, stE_sorted_, stE_all_, stE_any_, stE_repr_, stE_min1_, stE_max1_, stE_min2_, stE_max2_, stE_lrng_, stE_trng_, stE_idx_, stE_index_, asgPs_nil, asgPs_var, asgPs_tup, kret_sh, kret_own, kret_bor, kset_eq, kset_v, kaset_eq, kaset_v, kaug, opAug_add, opAug_sub, kd_augT, Wt, Wct, Wmt, denF_last, denF_more, fill_nil, fill_cons,
  Wo_add, Wo_addL, Wo_addT, Wo_sub, Wo_mul, Wo_fdiv, Wo_mod, Wo_pow, Wo_mulT, Wo_mulL, Wo_neg, Wo_not, Wo_int, Wo_intB, Wo_lt, Wo_le, Wo_gt, Wo_ge, Wo_eq, Wo_ne, Wo_eqS, Wo_neS, Wo_eqT, Wo_neT, Wo_eqL, Wo_neL, Wo_eqB, Wo_neB, Wo_inL, Wo_inT, Wo_niL, Wo_niT, Wo_isN, Wo_nisN, Wo_lenL, Wo_lenT, Wo_isa, Wo_tupleL, Wo_tupleT, Wo_listL, Wo_listT, Wo_sum, Wo_sumT, Wo_sortedL, Wo_sortedT, Wo_all, Wo_any, Wo_repr, Wo_max1, Wo_min1, Wo_min2, Wo_max2, Wo_lrng, Wo_trng, Wo_idxL, Wo_idxT, Wo_index, Wo_is, Wo_isnt, intsOf_ints, Wo_tup, Wo_lst,
  atD_0, atD_1, atD_2, atD_3, atD_4, kd_rng1, kd_rng2, cmp_lt, cmp_le, cmp_gt, cmp_ge, cmp_eq, seqs_nil, seqs_cons, zipL_2, kd_zip2, sl_l, sl_t, sl_rl, sl_rt, mtS_append, mtS_extend, szl_0, szl_s, csD_non, csD_bl, csD_int, csD_str, csD_emp, cont_nil, cont_0, ixN_0, ixN_1, ixN_2,
  List.getElem?_cons_zero, List.getElem?_cons_succ, List.set_cons_zero, List.set_cons_succ, Option.bind_some, Option.map_some, List.length_cons, List.length_nil, List.cons_append, List.nil_append, Nat.reduceAdd, ncI, startE_nil, startE_n, startE_c, mutIx_nil, mutIx_t, mutIx_f, kend_rt, kend_nx, true_and, and_true, eq_self, Nat.reduceLeDiff, Nat.reduceLT, Nat.reduceBEq, if_true, if_false, Bool.false_eq_true, reduceIte, decide_true, decide_false, Bool.not_true, Bool.not_false, Bool.and_true, Bool.true_and, Bool.or_true, Bool.or_false, Bool.false_or, Bool.true_or, Bool.and_false, Bool.false_and, Int.reduceLT, Int.reduceLE, Int.reduceEq, Int.reduceNeg, Int.reduceAdd, Int.reduceSub, Int.reduceMul, Int.reduceToNat, isT_i, isT_b, isT_n, isT_s, isT_l, isT_t, isT_d, List.any_cons, List.any_nil, bors_bor, cont_s, kafter_tf, kafter_own, kafter_at, kafter_no, kafter_sh, borsN_nil, borsN_sh, borsN_own, allN_nil, allN_f, isAt_n, isAt_b, isAt_i, isAt_s, isAt_l, isAt_t, back_nil, back_cons, Option.getD_some, Option.getD_none, List.map_cons, List.map_nil, lateNe1, lateNe2, maxNe1, maxNe2, sumNe1, sumNe2, isNone_n, List.isEmpty_nil, List.isEmpty_cons, List.isEmpty_map, beq_self_eq_true, Bool.true_beq, Bool.false_beq, isNone_b, isNone_i, isNone_s, isNone_l, isNone_t, isNone_d, List.length_map, List.length_range, Wo_job0, Wo_job1, Wo_job2, Wo_meas0, Wo_meas1, okD_int, okD_bool, okD_nil, Bool.and_self])
local macro_rules | `(tactic| walk_at "mr") => `(tactic| ((try (walk_at "mrp")); walk_at "ms"))

/-! ### data of a bounded size -/
mutual
def sz : PyData → Nat
  | .none => 1
  | .bool _ => 1
  | .int _ => 1
  | .str _ => 1
  | .list xs => 1 + szAll xs
  | .tuple xs => 1 + szAll xs
  | .dict _ => 1
def szAll : List PyData → Nat
  | [] => 0
  | x :: xs => sz x + szAll xs
end
mutual
def bnd (b : Int) : PyData → Bool
  | .none => true
  | .bool _ => true
  | .int i => decide (-b < i ∧ i < b)
  | .str s => decide (s.cps.size ≤ 100) && s.cps.toList.all fun c => decide (c < 16 ^ 8)
  | .list xs => bndAll b xs
  | .tuple xs => bndAll b xs
  | .dict kvs => kvs.isEmpty
def bndAll (b : Int) : List PyData → Bool
  | [] => true
  | x :: xs => bnd b x && bndAll b xs
end
def Bd (b : Int) (n : Nat) (d : PyData) : Prop := bnd b d = true ∧ sz d ≤ n
theorem sz_pos : ∀ d : PyData, 1 ≤ sz d
  | .none => by rw [sz]; exact Nat.le_refl _
  | .bool _ => by rw [sz]; exact Nat.le_refl _
  | .int _ => by rw [sz]; exact Nat.le_refl _
  | .str _ => by rw [sz]; exact Nat.le_refl _
  | .list xs => by rw [sz]; omega
  | .tuple xs => by rw [sz]; omega
  | .dict _ => by rw [sz]; exact Nat.le_refl _
theorem szAll_mem : ∀ {xs : List PyData} {x : PyData}, x ∈ xs → sz x ≤ szAll xs
  | y :: ys, x, h => by
    rw [szAll]
    rcases List.mem_cons.mp h with rfl | h
    · omega
    · have := szAll_mem h
      omega
theorem szAll_len : ∀ xs : List PyData, xs.length ≤ szAll xs
  | [] => Nat.zero_le _
  | x :: xs => by
    rw [szAll, List.length_cons]
    have := sz_pos x
    have := szAll_len xs
    omega
theorem szAll_append : ∀ xs ys : List PyData, szAll (xs ++ ys) = szAll xs + szAll ys
  | [], ys => by rw [List.nil_append, szAll, Nat.zero_add]
  | x :: xs, ys => by rw [List.cons_append, szAll, szAll, szAll_append xs ys, Nat.add_assoc]
theorem szAll_take (k : Nat) (xs : List PyData) : szAll (xs.take k) ≤ szAll xs := by
  have := szAll_append (xs.take k) (xs.drop k)
  rw [List.take_append_drop] at this
  omega
theorem szAll_drop (k : Nat) (xs : List PyData) : szAll (xs.drop k) ≤ szAll xs := by
  have := szAll_append (xs.take k) (xs.drop k)
  rw [List.take_append_drop] at this
  omega
theorem szAll_reverse : ∀ xs : List PyData, szAll xs.reverse = szAll xs
  | [] => rfl
  | x :: xs => by
    rw [List.reverse_cons, szAll_append, szAll_reverse xs, szAll, szAll, szAll]
    omega
theorem szAll_set (d : PyData) : ∀ (xs : List PyData) (k : Nat), szAll (xs.set k d) ≤ szAll xs + sz d
  | [], k => by rw [List.set_nil, szAll]; omega
  | x :: xs, 0 => by rw [List.set_cons_zero, szAll, szAll]; omega
  | x :: xs, k + 1 => by
    rw [List.set_cons_succ, szAll, szAll]
    have := szAll_set d xs k
    omega
theorem bndAll_iff {b : Int} : ∀ {xs : List PyData}, bndAll b xs = true ↔ ∀ x ∈ xs, bnd b x = true
  | [] => by rw [bndAll]; simp
  | x :: xs => by
    rw [bndAll, Bool.and_eq_true, bndAll_iff]
    simp
mutual
theorem bnd_mono {b b' : Int} (h : b ≤ b') : ∀ {d : PyData}, bnd b d = true → bnd b' d = true
  | .none, _ => by rw [bnd]
  | .bool _, _ => by rw [bnd]
  | .int i, k => by
    rw [bnd] at k ⊢
    have := of_decide_eq_true k
    exact decide_eq_true (by omega)
  | .str s, k => by
    rw [bnd] at k ⊢
    exact k
  | .list xs, k => by
    rw [bnd] at k ⊢
    exact bndAll_mono h k
  | .tuple xs, k => by
    rw [bnd] at k ⊢
    exact bndAll_mono h k
  | .dict kvs, k => by
    rw [bnd] at k ⊢
    exact k
theorem bndAll_mono {b b' : Int} (h : b ≤ b') : ∀ {xs : List PyData}, bndAll b xs = true → bndAll b' xs = true
  | [], _ => by rw [bndAll]
  | x :: xs, k => by
    rw [bndAll, Bool.and_eq_true] at k ⊢
    exact ⟨bnd_mono h k.1, bndAll_mono h k.2⟩
end
mutual
theorem bnd_rp0 {b : Int} (hb : b ≤ 100000000000000000000000000000000000000000000000000) : ∀ {d : PyData}, bnd b d = true → d.showable = true ∧ d.leavesShort 60 = true ∧ d.weight + 100 ≤ 400 * sz d ∧ d.depth ≤ sz d
  | .none, _ => by rw [sz]; exact ⟨by rw [PyData.showable], by rw [PyData.leavesShort], by rw [PyData.weight]; omega, by rw [PyData.depth]; omega⟩
  | .bool _, _ => by rw [sz]; exact ⟨by rw [PyData.showable], by rw [PyData.leavesShort], by rw [PyData.weight]; omega, by rw [PyData.depth]; omega⟩
  | .int i, h => by
    rw [bnd] at h
    have := of_decide_eq_true h
    rw [sz]
    have := Rp.int (i := i) ⟨by omega, by omega⟩
    exact ⟨this.1, this.2.1, by have := this.2.2.1; omega, by have := this.2.2.2; omega⟩
  | .str s, h => by
    rw [bnd, Bool.and_eq_true] at h
    have := of_decide_eq_true h.1
    rw [sz]
    refine ⟨by rw [PyData.showable], by rw [PyData.leavesShort]; exact h.2, by rw [PyData.weight]; omega, by rw [PyData.depth]; omega⟩
  | .list xs, h => by
    rw [bnd] at h
    obtain ⟨h1, h2, h3, h4⟩ := bndAll_rp hb h
    rw [sz]
    exact ⟨by rw [PyData.showable]; exact h1, by rw [PyData.leavesShort]; exact h2, by rw [PyData.weight]; omega, by rw [PyData.depth]; omega⟩
  | .tuple xs, h => by
    rw [bnd] at h
    obtain ⟨h1, h2, h3, h4⟩ := bndAll_rp hb h
    rw [sz]
    exact ⟨by rw [PyData.showable]; exact h1, by rw [PyData.leavesShort]; exact h2, by rw [PyData.weight]; omega, by rw [PyData.depth]; omega⟩
  | .dict kvs, h => by
    rw [bnd] at h
    have : kvs = [] := List.isEmpty_iff.mp h
    subst this
    rw [sz]
    exact ⟨by rw [PyData.showable]; rfl, by rw [PyData.leavesShort]; rfl, by rw [PyData.weight, PyData.weightKv]; omega, by rw [PyData.depth, PyData.depthKv]; omega⟩
theorem bndAll_rp {b : Int} (hb : b ≤ 100000000000000000000000000000000000000000000000000) : ∀ {xs : List PyData}, bndAll b xs = true → PyData.showableAll xs = true ∧ PyData.leavesShortAll 60 xs = true ∧ PyData.weightAll xs ≤ 400 * szAll xs ∧ PyData.depthAll xs ≤ szAll xs
  | [], _ => ⟨rfl, rfl, by rw [PyData.weightAll]; omega, by rw [PyData.depthAll]; omega⟩
  | x :: xs, h => by
    rw [bndAll, Bool.and_eq_true] at h
    have h1 := bnd_rp0 hb h.1
    obtain ⟨h2, h3, h4, h5⟩ := bndAll_rp hb h.2
    have := sz_pos x
    rw [szAll]
    refine ⟨by rw [PyData.showableAll, h1.1, h2]; rfl, by rw [PyData.leavesShortAll, h1.2.1, h3]; rfl, ?_, ?_⟩
    · rw [PyData.weightAll]
      have := h1.2.2.1
      omega
    · rw [PyData.depthAll]
      have := h1.2.2.2
      omega
end
theorem bnd_rp {b : Int} (hb : b ≤ 100000000000000000000000000000000000000000000000000) {d : PyData} (h : bnd b d = true) : Rp (400 * sz d) (sz d) d := by
  have := bnd_rp0 hb h
  exact ⟨this.1, this.2.1, by omega, this.2.2.2⟩
theorem Bd.ok {b : Int} {n : Nat} {d : PyData} (h : Bd b n d) (hb : b ≤ 100000000000000000000000000000000000000000000000000) (hn : n ≤ 100) : (d.showable && (decide (d.depth ≤ 100) && szOk d.shown.length)) = true :=
  (bnd_rp hb h.1).ok (by have := h.2; omega) (by have := h.2; omega)
theorem Bd.mono {b b' : Int} {n n' : Nat} {d : PyData} (h : Bd b n d) (h1 : b ≤ b') (h2 : n ≤ n') : Bd b' n' d := ⟨bnd_mono h1 h.1, Nat.le_trans h.2 h2⟩
theorem Bd_none {b : Int} : Bd b 1 .none := ⟨by rw [bnd], by rw [sz]; omega⟩
theorem Bd_bool {b : Int} {v : Bool} : Bd b 1 (.bool v) := ⟨by rw [bnd], by rw [sz]; omega⟩
theorem Bd_int {b i : Int} (h : -b < i) (h2 : i < b) : Bd b 1 (.int i) := ⟨by rw [bnd]; exact decide_eq_true ⟨h, h2⟩, by rw [sz]; omega⟩
theorem Bd_str {b : Int} {s : Str} (h : (decide (s.cps.size ≤ 100) && s.cps.toList.all fun c => decide (c < 16 ^ 8)) = true) : Bd b 1 (.str s) := ⟨by rw [bnd]; exact h, by rw [sz]; omega⟩
theorem Bd_emp {b : Int} : Bd b 1 (.dict []) := ⟨by rw [bnd]; rfl, by rw [sz]; omega⟩
theorem Bd_tuple {b : Int} {n : Nat} {xs : List PyData} (h : ∀ x ∈ xs, bnd b x = true) (h2 : 1 + szAll xs ≤ n) : Bd b n (.tuple xs) := ⟨by rw [bnd]; exact bndAll_iff.mpr h, by rw [sz]; exact h2⟩
theorem Bd_list {b : Int} {n : Nat} {xs : List PyData} (h : ∀ x ∈ xs, bnd b x = true) (h2 : 1 + szAll xs ≤ n) : Bd b n (.list xs) := ⟨by rw [bnd]; exact bndAll_iff.mpr h, by rw [sz]; exact h2⟩
theorem szAll_ints : ∀ zs : List Int, szAll (zs.map .int) = zs.length
  | [] => by rw [List.map_nil, szAll]; rfl
  | z :: zs => by rw [List.map_cons, szAll, szAll_ints zs, sz, List.length_cons]; omega
theorem szAll_nats (os : List Nat) : szAll (os.map fun (i : Nat) => .int i) = os.length := by
  have := szAll_ints (os.map fun (i : Nat) => (i : Int))
  rwa [List.map_map, List.length_map] at this
theorem flat_sz {b : Int} : ∀ {xs : List PyData}, (∀ x ∈ xs, Bd b 1 x) → (∀ x ∈ xs, bnd b x = true) ∧ szAll xs ≤ xs.length
  | [], _ => ⟨by simp, by rw [szAll]; omega⟩
  | x :: xs, h => by
    obtain ⟨h1, h2⟩ := flat_sz (b := b) (xs := xs) fun y hy => h y (List.mem_cons_of_mem _ hy)
    have h3 := h x (List.mem_cons_self ..)
    refine ⟨fun y hy => ?_, ?_⟩
    · rcases List.mem_cons.mp hy with rfl | hy
      · exact h3.1
      · exact h1 y hy
    · rw [szAll, List.length_cons]
      have := h3.2
      omega
theorem Bd_flatT {b : Int} {N : Nat} {xs : List PyData} (h : ∀ x ∈ xs, Bd b 1 x) (hl : xs.length + 1 ≤ N) : Bd b N (.tuple xs) := Bd_tuple (flat_sz h).1 (by have := (flat_sz h).2; omega)
theorem Bd_flatL {b : Int} {N : Nat} {xs : List PyData} (h : ∀ x ∈ xs, Bd b 1 x) (hl : xs.length + 1 ≤ N) : Bd b N (.list xs) := Bd_list (flat_sz h).1 (by have := (flat_sz h).2; omega)
theorem sz_len {xs : List PyData} (h : sz (.tuple xs) ≤ 1000) : xs.length ≤ 1000 := by
  rw [sz] at h
  have := szAll_len xs
  omega
theorem sz_mem {xs : List PyData} (h : sz (.tuple xs) ≤ 1000) {x : PyData} (hx : x ∈ xs) : sz x ≤ 1000 := by
  rw [sz] at h
  have := szAll_mem hx
  omega
theorem szAll_rows {b : Int} {m : Nat} : ∀ {xs : List PyData}, (∀ x ∈ xs, Bd b m x) → (∀ x ∈ xs, bnd b x = true) ∧ szAll xs ≤ xs.length * m
  | [], _ => ⟨by simp, by rw [szAll]; omega⟩
  | x :: xs, h => by
    obtain ⟨h1, h2⟩ := szAll_rows (b := b) (m := m) (xs := xs) fun y hy => h y (List.mem_cons_of_mem _ hy)
    have h3 := h x (List.mem_cons_self ..)
    refine ⟨fun y hy => ?_, ?_⟩
    · rcases List.mem_cons.mp hy with rfl | hy
      · exact h3.1
      · exact h1 y hy
    · rw [szAll, List.length_cons, Nat.add_mul]
      have := h3.2
      omega
theorem Bd_rowsT {b : Int} {m N : Nat} {xs : List PyData} (h : ∀ x ∈ xs, Bd b m x) (hl : xs.length * m + 1 ≤ N) : Bd b N (.tuple xs) := Bd_tuple (szAll_rows h).1 (by have := (szAll_rows h).2; omega)
theorem Bd_rowsL {b : Int} {m N : Nat} {xs : List PyData} (h : ∀ x ∈ xs, Bd b m x) (hl : xs.length * m + 1 ≤ N) : Bd b N (.list xs) := Bd_list (szAll_rows h).1 (by have := (szAll_rows h).2; omega)

def fn_odd30 (c__law_one_of : Nat) : Fn := ⟨"_law_odd", [true], 2,
  (.cons (.asg (.var 1) (.op .lst (.cons (.cst .non) (.cons (.cst (.bl true)) (.cons (.cst (.bl false)) (.cons (.cst (.int 0)) (.cons (.cst (.int 1)) (.cons (.op .neg (.cons (.cst (.int 1)) .nil)) (.cons (.cst (.str "")) (.cons (.cst (.str "a")) (.cons (.op .tup .nil) (.cons (.op .lst .nil) (.cons (.cst .emp) (.cons (.op .tup (.cons (.cst (.int 0)) .nil)) (.cons (.op .tup (.cons (.cst (.int 0)) (.cons (.cst (.int 1)) .nil))) (.cons (.op .tup (.cons (.cst (.int 1)) (.cons (.cst (.int 0)) .nil))) (.cons (.op .tup (.cons (.cst (.int 0)) (.cons (.cst (.int 0)) .nil))) (.cons (.op .tup (.cons (.op .tup (.cons (.cst (.int 0)) .nil)) .nil)) (.cons (.op .lst (.cons (.cst (.int 0)) .nil)) (.cons (.op .tup (.cons (.cst (.bl true)) .nil)) .nil))))))))))))))))))))
  (.cons (.ret (.call c__law_one_of (.cons (.var 0) (.cons (.op (.bin .add) (.cons (.var 1) (.cons (.op .lst (.cons (.op .tup (.cons (.cst (.int 0)) (.cons (.cst .non) .nil))) (.cons (.op (.bin .pow) (.cons (.cst (.int 10)) (.cons (.cst (.int 20)) .nil))) .nil))) .nil))) .nil))))
  .nil))⟩
def fn_bent30 (c__law_take c__law_odd c__law_one_of c__law_bent : Nat) : Fn := ⟨"_law_bent", [true, false], 5,
  (.cons (.ite (.or (.cons (.op (.isa [.bool]) (.cons (.var 1) .nil)) (.cons (.op .not (.cons (.op (.isa [.int, .tuple, .list]) (.cons (.var 1) .nil)) .nil)) (.cons (.op (.cmp .eq) (.cons (.call c__law_take (.cons (.var 0) (.cons (.cst (.int 9)) .nil))) (.cons (.cst (.int 0)) .nil))) .nil))))
    (.cons (.ret (.call c__law_odd (.cons (.var 0) .nil)))
    .nil)
    .nil)
  (.cons (.ite (.op (.isa [.int]) (.cons (.var 1) .nil))
    (.cons (.ret (.call c__law_one_of (.cons (.var 0) (.cons (.op .lst (.cons (.op (.bin .add) (.cons (.var 1) (.cons (.cst (.int 1)) .nil))) (.cons (.op (.bin .sub) (.cons (.var 1) (.cons (.cst (.int 1)) .nil))) (.cons (.op (.bin .add) (.cons (.var 1) (.cons (.cst (.int 5)) .nil))) (.cons (.ite (.chain .le .lt (.cst (.int 0)) (.var 1) (.cst (.int 2))) (.op (.cmp .eq) (.cons (.var 1) (.cons (.cst (.int 1)) .nil))) (.cst (.int 0))) .nil))))) .nil))))
    .nil)
    .nil)
  (.cons (.ite (.op (.cmp .eq) (.cons (.op .len (.cons (.var 1) .nil)) (.cons (.cst (.int 0)) .nil)))
    (.cons (.ret (.call c__law_odd (.cons (.var 0) .nil)))
    .nil)
    .nil)
  (.cons (.par [.tg (.var 2), .tg (.var 3), .tg (.var 4)] (.cons (.op .list (.cons (.var 1) .nil)) (.cons (.call c__law_take (.cons (.var 0) (.cons (.cst (.int 9)) .nil))) (.cons (.call c__law_take (.cons (.var 0) (.cons (.op .len (.cons (.var 1) .nil)) .nil))) .nil))))
  (.cons (.ite (.op (.cmp .lt) (.cons (.var 3) (.cons (.cst (.int 6)) .nil)))
    (.cons (.set 2 (.var 4) (.call c__law_bent (.cons (.var 0) (.cons (.op .idx (.cons (.var 2) (.cons (.var 4) .nil))) .nil))))
    .nil)
    (.cons (.asg (.var 2) (.op .idx (.cons (.op .lst (.cons (.op (.bin .add) (.cons (.slice (.var 2) .nil (.cons (.var 4) .nil) none) (.cons (.slice (.var 2) (.cons (.op (.bin .add) (.cons (.var 4) (.cons (.cst (.int 1)) .nil))) .nil) .nil none) .nil))) (.cons (.op (.bin .add) (.cons (.var 2) (.cons (.slice (.var 2) (.cons (.var 4) .nil) (.cons (.op (.bin .add) (.cons (.var 4) (.cons (.cst (.int 1)) .nil))) .nil) none) .nil))) (.cons (.slice (.var 2) .nil .nil (some (-1))) .nil)))) (.cons (.op (.bin .sub) (.cons (.var 3) (.cons (.cst (.int 6)) .nil))) .nil))))
    .nil))
  (.cons (.ret (.ite (.op (.cmp .eq) (.cons (.op (.isa [.tuple]) (.cons (.var 1) .nil)) (.cons (.op (.cmp .gt) (.cons (.call c__law_take (.cons (.var 0) (.cons (.cst (.int 9)) .nil))) (.cons (.cst (.int 0)) .nil))) .nil))) (.op .tuple (.cons (.var 2) .nil)) (.var 2)))
  .nil))))))⟩
theorem szAll_set_eq {d : PyData} : ∀ {xs : List PyData} {k : Nat} (h : k < xs.length), szAll (xs.set k d) + sz xs[k] = szAll xs + sz d
  | [], k, h => absurd h (by simp)
  | x :: xs, 0, h => by
    rw [List.set_cons_zero, szAll, szAll, List.getElem_cons_zero]
    omega
  | x :: xs, k + 1, h => by
    rw [List.set_cons_succ, szAll, szAll, List.getElem_cons_succ]
    have := szAll_set_eq (d := d) (xs := xs) (k := k) (by simpa using h)
    omega
def S_odd (T : List Fn) (f : Nat) : Prop := MuT T f = [true] ∧ ∀ (n : Nat) (k : Int) (p : PyData), Pen k p → k < 900000 → Wc (run T (n + 4)) f [(true, p)] fun r fin => ∃ d p', r = (false, d) ∧ fin = [p'] ∧ Bd 1000000000000000000000 4 d ∧ Pen (k + 1) p'
theorem odd30_S {T : List Fn} {f c1 : Nat} (h : T[f]? = some (fn_odd30 c1)) (hO : S_one_of T c1) : S_odd T f := by
  refine ⟨MuT_of h, fun n k p hp hk => ?_⟩
  refine Wc_of h rfl ?_
  walk_at "mq"
  walk_at "oo"
  rename_i d p hd hp
  refine ⟨d, p, rfl, rfl, ?_, hp⟩
  have t1 : ∀ x : PyData, bnd 1000000000000000000000 x = true → sz x ≤ 2 → Bd 1000000000000000000000 4 (.tuple [x]) := fun x h1 h2 => Bd_tuple (by simpa using h1) (by rw [szAll, szAll]; omega)
  have t2 : ∀ x y : PyData, bnd 1000000000000000000000 x = true → bnd 1000000000000000000000 y = true → sz x ≤ 1 → sz y ≤ 1 → Bd 1000000000000000000000 4 (.tuple [x, y]) := fun x y h1 h2 h3 h4 => Bd_tuple (by
    intro z hz
    simp only [List.mem_cons, List.not_mem_nil, or_false] at hz
    rcases hz with rfl | rfl
    · exact h1
    · exact h2) (by rw [szAll, szAll, szAll]; omega)
  have i0 : ∀ i : Int, i = 0 ∨ i = 1 → bnd 1000000000000000000000 (.int i) = true ∧ sz (.int i) ≤ 1 := fun i hi => ⟨by rw [bnd]; exact decide_eq_true (by omega), by rw [sz]; omega⟩
  have a := i0 0 (.inl rfl)
  have b := i0 1 (.inr rfl)
  simp only [List.mem_cons, List.not_mem_nil, or_false, List.mem_append] at hd
  rcases hd with rfl | rfl | rfl | rfl | rfl | rfl | rfl | rfl | rfl | rfl | rfl | rfl | rfl | rfl | rfl | rfl | rfl | rfl | rfl | rfl
  · exact Bd_none.mono (Int.le_refl _) (by omega)
  · exact Bd_bool.mono (Int.le_refl _) (by omega)
  · exact Bd_bool.mono (Int.le_refl _) (by omega)
  · exact (Bd_int (b := 1000000000000000000000) (by decide) (by decide)).mono (by omega) (by omega)
  · exact (Bd_int (b := 1000000000000000000000) (by decide) (by decide)).mono (by omega) (by omega)
  · exact (Bd_int (b := 1000000000000000000000) (by decide) (by decide)).mono (by omega) (by omega)
  · exact (Bd_str (b := 1000000000000000000000) (by decide)).mono (by omega) (by omega)
  · exact (Bd_str (b := 1000000000000000000000) (by decide)).mono (by omega) (by omega)
  · exact Bd_tuple (by simp) (by rw [szAll]; omega)
  · exact Bd_list (by simp) (by rw [szAll]; omega)
  · exact Bd_emp.mono (Int.le_refl _) (by omega)
  · exact t1 _ a.1 (by omega)
  · exact t2 _ _ a.1 b.1 a.2 b.2
  · exact t2 _ _ b.1 a.1 b.2 a.2
  · exact t2 _ _ a.1 a.1 a.2 a.2
  · exact t1 _ (Bd_tuple (n := 2) (by simpa using a.1) (by rw [szAll, szAll]; omega)).1 (by rw [sz, szAll, szAll]; omega)
  · exact Bd_list (by simpa using a.1) (by rw [szAll, szAll]; omega)
  · exact t1 _ (by rw [bnd]) (by rw [sz]; omega)
  · exact t2 _ _ a.1 (by rw [bnd]) a.2 (by rw [sz]; omega)
  · exact (Bd_int (b := 1000000000000000000000) (by decide) (by decide)).mono (by omega) (by omega)
def S_bent (T : List Fn) (f : Nat) : Prop := MuT T f = [true, false] ∧ ∀ (m n : Nat) (k : Int) (p : PyData) (b : Int) (d : PyData), Pen k p → k + 6 * m < 800000 → 1000000000000000000000 ≤ b → m ≤ 10000 → Bd b m d → Wc (run T (n + m + 5)) f [(true, p), (false, d)] fun r fin => ∃ (o : Bool) (d' : PyData) (p' : PyData), r = (o, d') ∧ fin = [p'] ∧ Bd (b + 10) (2 * m + 4) d' ∧ Pen (k + 6 * m) p'
theorem bent30_S {T : List Fn} {f c1 c2 c3 : Nat} (h : T[f]? = some (fn_bent30 c1 c2 c3 f)) (hT : S_take T c1) (hD : S_odd T c2) (hO : S_one_of T c3) : S_bent T f := by
  refine ⟨MuT_of h, fun m => ?_⟩
  induction m using Nat.strongRecOn with
  | ind m ih =>
    intro n k p b d hp hk hb hm hd
    have hm1 : 1 ≤ m := Nat.le_trans (sz_pos d) hd.2
    have hk2 : k + 5 < k + 6 * m := by omega
    have odd : ∀ (k2 : Int) (p2 : PyData), Pen k2 p2 → k ≤ k2 → k2 ≤ k + 3 → Wc (run T (n + m + 4)) c2 [(true, p2)] fun r fin => ∃ (o : Bool) (d' : PyData) (p' : PyData), r = (o, d') ∧ fin = [p'] ∧ Bd (b + 10) (2 * m + 4) d' ∧ Pen (k + 6 * m) p' := fun k2 p2 hp2 h1 h2 => by
      refine (hD.2 (n + m) k2 p2 hp2 (by omega)).mono ?_
      rintro r fin ⟨d', p', rfl, rfl, h3, h4⟩
      exact ⟨false, d', p', rfl, rfl, h3.mono (by omega) (by omega), h4.mono (by omega)⟩
    refine Wc_of h rfl ?_
    cases d with
    | none =>
      walk_at "mq"
      refine call_ok hD.1 (odd k p hp (by omega) (by omega)) rfl rfl ?_
      rintro _ _ ⟨o, d', p', rfl, rfl, h3, h4⟩
      cases o
      all_goals
        walk_at "mq"
        exact ⟨_, _, _, rfl, rfl, h3, h4⟩
    | bool v =>
      walk_at "mq"
      refine call_ok hD.1 (odd k p hp (by omega) (by omega)) rfl rfl ?_
      rintro _ _ ⟨o, d', p', rfl, rfl, h3, h4⟩
      cases o
      all_goals
        walk_at "mq"
        exact ⟨_, _, _, rfl, rfl, h3, h4⟩
    | str v =>
      walk_at "mq"
      refine call_ok hD.1 (odd k p hp (by omega) (by omega)) rfl rfl ?_
      rintro _ _ ⟨o, d', p', rfl, rfl, h3, h4⟩
      cases o
      all_goals
        walk_at "mq"
        exact ⟨_, _, _, rfl, rfl, h3, h4⟩
    | dict v =>
      walk_at "mq"
      refine call_ok hD.1 (odd k p hp (by omega) (by omega)) rfl rfl ?_
      rintro _ _ ⟨o, d', p', rfl, rfl, h3, h4⟩
      cases o
      all_goals
        walk_at "mq"
        exact ⟨_, _, _, rfl, rfl, h3, h4⟩
    | int i =>
      have hi : -b < i ∧ i < b := by
        have := hd.1
        rw [bnd] at this
        exact of_decide_eq_true this
      walk_at "mq"
      walk_at "tk"
      rename_i z p hz0 hz1 hp
      refine kite_d (fun h2 => ?_) (fun h2 => ?_)
      · walk_at "mq"
        refine call_ok hD.1 (odd _ p hp (by omega) (by omega)) rfl rfl ?_
        rintro _ _ ⟨o, d', p', rfl, rfl, h3, h4⟩
        cases o
        all_goals
          walk_at "mq"
          exact ⟨_, _, _, rfl, rfl, h3, h4⟩
      · walk_at "mq"
        have near : ∀ j : Int, -6 ≤ j - i → j - i ≤ 6 → Bd (b + 10) (2 * m + 4) (.int j) := fun j h3 h4 => (Bd_int (b := b + 10) (by omega) (by omega)).mono (Int.le_refl _) (by omega)
        refine kite_d (fun h3 => ?_) (fun h3 => ?_)
        · walk_at "mq"
          refine kite_d (fun h4 => ?_) (fun h4 => ?_)
          all_goals
            walk_at "mq"
            walk_at "oo"
            rename_i d' p hd' hp
            refine ⟨_, d', p, rfl, rfl, ?_, hp.mono (by omega)⟩
            simp only [List.mem_cons, List.not_mem_nil, or_false] at hd'
            rcases hd' with rfl | rfl | rfl | rfl
            · exact near _ (by omega) (by omega)
            · exact near _ (by omega) (by omega)
            · exact near _ (by omega) (by omega)
            · first
                | exact Bd_bool.mono (b := b) (by omega) (by omega)
                | exact (Bd_int (b := b) (by omega) (by omega)).mono (by omega) (by omega)
        · walk_at "mq"
          walk_at "oo"
          rename_i d' p hd' hp
          refine ⟨_, d', p, rfl, rfl, ?_, hp.mono (by omega)⟩
          simp only [List.mem_cons, List.not_mem_nil, or_false] at hd'
          rcases hd' with rfl | rfl | rfl | rfl
          · exact near _ (by omega) (by omega)
          · exact near _ (by omega) (by omega)
          · exact near _ (by omega) (by omega)
          · exact (Bd_int (b := b) (by omega) (by omega)).mono (by omega) (by omega)
    | tuple xs =>
      have hx : (∀ x ∈ xs, bnd b x = true) ∧ 1 + szAll xs ≤ m := by
        have h1 := hd.1
        have h2 := hd.2
        rw [bnd] at h1
        rw [sz] at h2
        exact ⟨bndAll_iff.mp h1, h2⟩
      have hlen := szAll_len xs
      walk_at "mq"
      walk_at "tk"
      rename_i z p hz0 hz1 hp
      refine kite_d (fun h2 => ?_) (fun h2 => ?_)
      · walk_at "mq"
        refine call_ok hD.1 (odd _ p hp (by omega) (by omega)) rfl rfl ?_
        rintro _ _ ⟨o, d', p', rfl, rfl, h3, h4⟩
        cases o
        all_goals
          walk_at "mq"
          exact ⟨_, _, _, rfl, rfl, h3, h4⟩
      · walk_at "mq"
        refine kite_d (fun h3 => ?_) (fun h3 => ?_)
        · walk_at "mq"
          refine call_ok hD.1 (odd _ p hp (by omega) (by omega)) rfl rfl ?_
          rintro _ _ ⟨o, d', p', rfl, rfl, h3, h4⟩
          cases o
          all_goals
            walk_at "mq"
            exact ⟨_, _, _, rfl, rfl, h3, h4⟩
        · walk_at "mq"
          walk_at "tk"
          walk_at "tk"
          rename_i w _ hw0 hw1 _ j p hj0 hj1 hp
          obtain ⟨j, rfl⟩ := Int.eq_ofNat_of_zero_le hj0
          have hj : j < xs.length := by omega
          have ax : atD xs (j : Int) = some xs[j] := by rw [atD_ofNat, List.getElem?_eq_getElem hj]
          have bx := hx.1 xs[j] (List.getElem_mem hj)
          have sx := szAll_mem (List.getElem_mem hj)
          have px := sz_pos xs[j]
          have bm : ∀ y : PyData, bnd b y = true → bnd (b + 10) y = true := fun y h => bnd_mono (by omega) h
          refine kite_cut (fun ρ => ∃ (o : Bool) (ys : List PyData) (q : PyData), ρ = [some (true, q), some (false, .tuple xs), some (o, .list ys), some (false, .int w), some (false, .int j)] ∧ (∀ y ∈ ys, bnd (b + 10) y = true) ∧ 1 + szAll ys ≤ 2 * m + 4 ∧ Pen (k + 6 * m - 1) q) ?_ ?_
          · refine kite_d (fun h4 => ?_) (fun h4 => ?_)
            · walk_at "mq"
              rw [ax]
              walk_at "mq"
              have r := ih (sz xs[j]) (by omega) (n + (m - 1 - sz xs[j])) _ p b xs[j] hp (by omega) hb (by omega) ⟨bx, Nat.le_refl _⟩
              rw [show n + (m - 1 - sz xs[j]) + sz xs[j] + 5 = n + m + 4 by omega] at r
              refine call_ok (MuT_of h) r rfl rfl ?_
              rintro _ _ ⟨o, d', p', rfl, rfl, h5, h6⟩
              cases o
              all_goals
                walk_at "mq"
                rw [ixN_nat (by omega) (by omega), Int.toNat_natCast]
                walk_at "mq"
                refine ⟨_, _, _, rfl, fun y hy => ?_, ?_, h6.mono (by omega)⟩
                · rcases List.mem_or_eq_of_mem_set hy with hy | rfl
                  · exact bm y (hx.1 y hy)
                  · exact h5.1
                · have e1 := szAll_set_eq (d := d') hj
                  have := h5.2
                  omega
            · walk_at "mq"
              have e1 := sliced_to (xs := xs) j
              have e2 := sliced_from (xs := xs) (j + 1)
              have e3 := sliced_mid (xs := xs) j (j + 1)
              have e4 : ((j + 1 : Nat) : Int) = (j : Int) + 1 := rfl
              rw [e4] at e2 e3
              rw [e1, e2, e3, show j + 1 - j = 1 by omega]
              have l1 : (xs.take j ++ xs.drop (j + 1)).length ≤ 20000 := by simp; omega
              have l2 : (xs ++ (xs.drop j).take 1).length ≤ 20001 := by simp; omega
              have s1 : szAll (xs.take j ++ xs.drop (j + 1)) ≤ szAll xs + szAll xs := by
                rw [szAll_append]
                have := szAll_take j xs
                have := szAll_drop (j + 1) xs
                omega
              have s2 : szAll (xs ++ (xs.drop j).take 1) ≤ szAll xs + szAll xs := by
                rw [szAll_append]
                have := szAll_take 1 (xs.drop j)
                have := szAll_drop j xs
                omega
              have s3 := szAll_reverse xs
              have s4 : szAll (xs.take j ++ xs.drop (j + 1)) ≤ szAll xs := by
                rw [szAll_append]
                have e5 : szAll (xs.take j) + szAll (xs.drop j) = szAll xs := by rw [← szAll_append, List.take_append_drop]
                have e6 : szAll (xs.drop (j + 1)) ≤ szAll (xs.drop j) := by
                  rw [show xs.drop (j + 1) = (xs.drop j).drop 1 by rw [List.drop_drop]]
                  exact szAll_drop 1 _
                omega
              have b1 : ∀ y ∈ xs.take j ++ xs.drop (j + 1), bnd (b + 10) y = true := fun y hy => by
                rcases List.mem_append.mp hy with hy | hy
                · exact bm y (hx.1 y (List.mem_of_mem_take hy))
                · exact bm y (hx.1 y (List.mem_of_mem_drop hy))
              have b2 : ∀ y ∈ xs ++ (xs.drop j).take 1, bnd (b + 10) y = true := fun y hy => by
                rcases List.mem_append.mp hy with hy | hy
                · exact bm y (hx.1 y hy)
                · exact bm y (hx.1 y (List.mem_of_mem_drop (List.mem_of_mem_take hy)))
              have b3 : ∀ y ∈ xs.reverse, bnd (b + 10) y = true := fun y hy => bm y (hx.1 y (List.mem_reverse.mp hy))
              have hw : w = 6 ∨ w = 7 ∨ w = 8 := by omega
              refine ⟨szOk_of (by rw [List.length_append] at l1; exact Nat.le_trans l1 (by omega)), szOk_of (by rw [List.length_append] at l2; exact Nat.le_trans l2 (by omega)), ?_⟩
              walk_at "mq"
              rcases hw with rfl | rfl | rfl
              · rw [show (6 : Int) - 6 = 0 from rfl, atD_0]
                walk_at "mq"
                exact ⟨_, _, _, rfl, b1, by omega, hp.mono (by omega)⟩
              · rw [show (7 : Int) - 6 = 1 from rfl, atD_1]
                walk_at "mq"
                exact ⟨_, _, _, rfl, b2, by omega, hp.mono (by omega)⟩
              · rw [show (8 : Int) - 6 = 2 from rfl, atD_2]
                walk_at "mq"
                exact ⟨_, _, _, rfl, b3, by omega, hp.mono (by omega)⟩
          · rintro _ ⟨o, ys, q, rfl, hy1, hy2, hq⟩
            cases o
            all_goals
              walk_at "mq"
              walk_at "tk"
              rename_i z2 p3 _ _ hp3
              obtain hb2 | hb2 := Bool.eq_false_or_eq_true (decide (0 < z2))
              all_goals
                rw [hb2]
                walk_at "mq"
                first
                  | exact ⟨_, _, _, rfl, rfl, Bd_tuple hy1 hy2, hp3.mono (by omega)⟩
                  | exact ⟨_, _, _, rfl, rfl, Bd_list hy1 hy2, hp3.mono (by omega)⟩
    | list xs =>
      have hx : (∀ x ∈ xs, bnd b x = true) ∧ 1 + szAll xs ≤ m := by
        have h1 := hd.1
        have h2 := hd.2
        rw [bnd] at h1
        rw [sz] at h2
        exact ⟨bndAll_iff.mp h1, h2⟩
      have hlen := szAll_len xs
      walk_at "mq"
      walk_at "tk"
      rename_i z p hz0 hz1 hp
      refine kite_d (fun h2 => ?_) (fun h2 => ?_)
      · walk_at "mq"
        refine call_ok hD.1 (odd _ p hp (by omega) (by omega)) rfl rfl ?_
        rintro _ _ ⟨o, d', p', rfl, rfl, h3, h4⟩
        cases o
        all_goals
          walk_at "mq"
          exact ⟨_, _, _, rfl, rfl, h3, h4⟩
      · walk_at "mq"
        refine kite_d (fun h3 => ?_) (fun h3 => ?_)
        · walk_at "mq"
          refine call_ok hD.1 (odd _ p hp (by omega) (by omega)) rfl rfl ?_
          rintro _ _ ⟨o, d', p', rfl, rfl, h3, h4⟩
          cases o
          all_goals
            walk_at "mq"
            exact ⟨_, _, _, rfl, rfl, h3, h4⟩
        · walk_at "mq"
          walk_at "tk"
          walk_at "tk"
          rename_i w _ hw0 hw1 _ j p hj0 hj1 hp
          obtain ⟨j, rfl⟩ := Int.eq_ofNat_of_zero_le hj0
          have hj : j < xs.length := by omega
          have ax : atD xs (j : Int) = some xs[j] := by rw [atD_ofNat, List.getElem?_eq_getElem hj]
          have bx := hx.1 xs[j] (List.getElem_mem hj)
          have sx := szAll_mem (List.getElem_mem hj)
          have px := sz_pos xs[j]
          have bm : ∀ y : PyData, bnd b y = true → bnd (b + 10) y = true := fun y h => bnd_mono (by omega) h
          refine kite_cut (fun ρ => ∃ (o : Bool) (ys : List PyData) (q : PyData), ρ = [some (true, q), some (false, .list xs), some (o, .list ys), some (false, .int w), some (false, .int j)] ∧ (∀ y ∈ ys, bnd (b + 10) y = true) ∧ 1 + szAll ys ≤ 2 * m + 4 ∧ Pen (k + 6 * m - 1) q) ?_ ?_
          · refine kite_d (fun h4 => ?_) (fun h4 => ?_)
            · walk_at "mq"
              rw [ax]
              walk_at "mq"
              have r := ih (sz xs[j]) (by omega) (n + (m - 1 - sz xs[j])) _ p b xs[j] hp (by omega) hb (by omega) ⟨bx, Nat.le_refl _⟩
              rw [show n + (m - 1 - sz xs[j]) + sz xs[j] + 5 = n + m + 4 by omega] at r
              refine call_ok (MuT_of h) r rfl rfl ?_
              rintro _ _ ⟨o, d', p', rfl, rfl, h5, h6⟩
              cases o
              all_goals
                walk_at "mq"
                rw [ixN_nat (by omega) (by omega), Int.toNat_natCast]
                walk_at "mq"
                refine ⟨_, _, _, rfl, fun y hy => ?_, ?_, h6.mono (by omega)⟩
                · rcases List.mem_or_eq_of_mem_set hy with hy | rfl
                  · exact bm y (hx.1 y hy)
                  · exact h5.1
                · have e1 := szAll_set_eq (d := d') hj
                  have := h5.2
                  omega
            · walk_at "mq"
              have e1 := sliced_to (xs := xs) j
              have e2 := sliced_from (xs := xs) (j + 1)
              have e3 := sliced_mid (xs := xs) j (j + 1)
              have e4 : ((j + 1 : Nat) : Int) = (j : Int) + 1 := rfl
              rw [e4] at e2 e3
              rw [e1, e2, e3, show j + 1 - j = 1 by omega]
              have l1 : (xs.take j ++ xs.drop (j + 1)).length ≤ 20000 := by simp; omega
              have l2 : (xs ++ (xs.drop j).take 1).length ≤ 20001 := by simp; omega
              have s1 : szAll (xs.take j ++ xs.drop (j + 1)) ≤ szAll xs + szAll xs := by
                rw [szAll_append]
                have := szAll_take j xs
                have := szAll_drop (j + 1) xs
                omega
              have s2 : szAll (xs ++ (xs.drop j).take 1) ≤ szAll xs + szAll xs := by
                rw [szAll_append]
                have := szAll_take 1 (xs.drop j)
                have := szAll_drop j xs
                omega
              have s3 := szAll_reverse xs
              have s4 : szAll (xs.take j ++ xs.drop (j + 1)) ≤ szAll xs := by
                rw [szAll_append]
                have e5 : szAll (xs.take j) + szAll (xs.drop j) = szAll xs := by rw [← szAll_append, List.take_append_drop]
                have e6 : szAll (xs.drop (j + 1)) ≤ szAll (xs.drop j) := by
                  rw [show xs.drop (j + 1) = (xs.drop j).drop 1 by rw [List.drop_drop]]
                  exact szAll_drop 1 _
                omega
              have b1 : ∀ y ∈ xs.take j ++ xs.drop (j + 1), bnd (b + 10) y = true := fun y hy => by
                rcases List.mem_append.mp hy with hy | hy
                · exact bm y (hx.1 y (List.mem_of_mem_take hy))
                · exact bm y (hx.1 y (List.mem_of_mem_drop hy))
              have b2 : ∀ y ∈ xs ++ (xs.drop j).take 1, bnd (b + 10) y = true := fun y hy => by
                rcases List.mem_append.mp hy with hy | hy
                · exact bm y (hx.1 y hy)
                · exact bm y (hx.1 y (List.mem_of_mem_drop (List.mem_of_mem_take hy)))
              have b3 : ∀ y ∈ xs.reverse, bnd (b + 10) y = true := fun y hy => bm y (hx.1 y (List.mem_reverse.mp hy))
              have hw : w = 6 ∨ w = 7 ∨ w = 8 := by omega
              refine ⟨szOk_of (by rw [List.length_append] at l1; exact Nat.le_trans l1 (by omega)), szOk_of (by rw [List.length_append] at l2; exact Nat.le_trans l2 (by omega)), ?_⟩
              walk_at "mq"
              rcases hw with rfl | rfl | rfl
              · rw [show (6 : Int) - 6 = 0 from rfl, atD_0]
                walk_at "mq"
                exact ⟨_, _, _, rfl, b1, by omega, hp.mono (by omega)⟩
              · rw [show (7 : Int) - 6 = 1 from rfl, atD_1]
                walk_at "mq"
                exact ⟨_, _, _, rfl, b2, by omega, hp.mono (by omega)⟩
              · rw [show (8 : Int) - 6 = 2 from rfl, atD_2]
                walk_at "mq"
                exact ⟨_, _, _, rfl, b3, by omega, hp.mono (by omega)⟩
          · rintro _ ⟨o, ys, q, rfl, hy1, hy2, hq⟩
            cases o
            all_goals
              walk_at "mq"
              walk_at "tk"
              rename_i z2 p3 _ _ hp3
              obtain hb2 | hb2 := Bool.eq_false_or_eq_true (decide (0 < z2))
              all_goals
                rw [hb2]
                walk_at "mq"
                first
                  | exact ⟨_, _, _, rfl, rfl, Bd_tuple hy1 hy2, hp3.mono (by omega)⟩
                  | exact ⟨_, _, _, rfl, rfl, Bd_list hy1 hy2, hp3.mono (by omega)⟩

def fn_is_integer : Fn := ⟨"is_integer", [false], 1,
  (.cons (.ret (.and (.cons (.op (.isa [.int]) (.cons (.var 0) .nil)) (.cons (.op .not (.cons (.op (.isa [.bool]) (.cons (.var 0) .nil)) .nil)) .nil))))
  .nil)⟩
def isI : PyData → Bool
  | .int _ => true
  | _ => false
def S_is_integer (T : List Fn) (f : Nat) : Prop := MuT T f = [false] ∧ ∀ (n : Nat) (d : PyData), Wc (run T (n + 1)) f [(false, d)] fun r fin => r = (false, .bool (isI d)) ∧ fin = []
theorem is_integer_S {T : List Fn} {f : Nat} (h : T[f]? = some fn_is_integer) : S_is_integer T f := by
  refine ⟨MuT_of h, fun n d => ?_⟩
  refine Wc_of h rfl ?_
  cases d with
  | int i =>
    walk_at "mq"
    rfl
  | bool b =>
    walk_at "mq"
    rfl
  | _ =>
    walk_at "mq"
    rfl

def S_draw_terms (T : List Fn) (f : Nat) : Prop := MuT T f = [true] ∧ ∀ (n : Nat) (k : Int) (p : PyData), Pen k p → k < 900000 → Wc (run T (n + 4)) f [(true, p)] fun r fin => ∃ ts p', r = (false, pairsD ts) ∧ fin = [p'] ∧ termsOk ts ∧ Pen (k + 9) p'
def S_draw_measure (T : List Fn) (f : Nat) : Prop := MuT T f = [true, false] ∧ ∀ (n : Nat) (k : Int) (p : PyData) (m : Int), Pen k p → k < 800000 → 1 ≤ m → m ≤ 3 → Wc (run T (n + 5)) f [(true, p), (false, .int m)] fun r fin => ∃ M p', r = (false, measD M) ∧ fin = [p'] ∧ M.ok ∧ (M.kinds : Int) = m ∧ Pen (k + 30) p'
def S_draw_rule (T : List Fn) (f : Nat) : Prop := MuT T f = [true, false] ∧ ∀ (n : Nat) (k : Int) (p : PyData) (m : Int), Pen k p → k < 800000 → 1 ≤ m → m ≤ 3 → Wc (run T (n + 4)) f [(true, p), (false, .int m)] fun r fin => ∃ rs p', r = (false, pairsD rs) ∧ fin = [p'] ∧ (∀ r ∈ rs, small r.1 ∧ small r.2) ∧ (rs.length : Int) = m ∧ Pen (k + 10) p'
def Job.ok (j : Job) (m : Int) : Prop := (j.k : Int) < m ∧ 1 ≤ j.p ∧ 0 ≤ j.d
def S_draw_job (T : List Fn) (f : Nat) : Prop := MuT T f = [true, false, false] ∧ ∀ (n : Nat) (k : Int) (p : PyData) (m h : Int), Pen k p → k < 900000 → 1 ≤ m → m ≤ 3 → 1 ≤ h → h ≤ 1000000 → Wc (run T (n + 3)) f [(true, p), (false, .int m), (false, .int h)] fun r fin => ∃ j p', r = (false, jobD j) ∧ fin = [p'] ∧ j.ok m ∧ j.p ≤ 100000000000000000000 ∧ j.d ≤ 200000000000000000000 ∧ Pen (k + 4) p'
def fn_draw_terms (c__law_take c__law_one_of : Nat) : Fn := ⟨"_law_draw_terms", [true], 7,
  (.cons (.asg (.var 1) (.call c__law_take (.cons (.var 0) (.cons (.cst (.int 6)) .nil))))
  (.cons (.ite (.op (.cmp .lt) (.cons (.var 1) (.cons (.cst (.int 2)) .nil)))
    (.cons (.ret (.op .tup (.cons (.op .tup (.cons (.op (.bin .add) (.cons (.cst (.int 1)) (.cons (.call c__law_take (.cons (.var 0) (.cons (.cst (.int 3)) .nil))) .nil))) (.cons (.op (.bin .sub) (.cons (.call c__law_take (.cons (.var 0) (.cons (.cst (.int 5)) .nil))) (.cons (.cst (.int 2)) .nil))) .nil))) .nil)))
    .nil)
    .nil)
  (.cons (.ite (.op (.cmp .eq) (.cons (.var 1) (.cons (.cst (.int 2)) .nil)))
    (.cons (.ret (.op .tup (.cons (.op .tup (.cons (.cst (.int 1)) (.cons (.op .neg (.cons (.cst (.int 1)) .nil)) .nil))) .nil)))
    .nil)
    .nil)
  (.cons (.ite (.op (.cmp .eq) (.cons (.var 1) (.cons (.cst (.int 3)) .nil)))
    (.cons (.ret (.op .tup (.cons (.op .tup (.cons (.cst (.int 0)) (.cons (.cst (.int 0)) .nil))) (.cons (.op .tup (.cons (.cst (.int 1)) (.cons (.op .neg (.cons (.cst (.int 1)) .nil)) .nil))) .nil))))
    .nil)
    .nil)
  (.cons (.asg (.var 2) (.comp [6] (.call c__law_one_of (.cons (.var 0) (.cons (.op .lst (.cons (.cst (.int 0)) (.cons (.cst (.int 1)) (.cons (.cst (.int 1)) (.cons (.cst (.int 2)) (.cons (.op .neg (.cons (.cst (.int 1)) .nil)) (.cons (.op (.bin .sub) (.cons (.call c__law_take (.cons (.var 0) (.cons (.cst (.int 19)) .nil))) (.cons (.cst (.int 9)) .nil))) .nil))))))) .nil))) (.last (.var 6) (.rng (.cons (.cst (.int 2)) .nil)) .nil)))
  (.cons (.asg (.var 3) (.comp [6] (.call c__law_one_of (.cons (.var 0) (.cons (.op .lst (.cons (.cst (.int 0)) (.cons (.op .neg (.cons (.cst (.int 1)) .nil)) (.cons (.op .neg (.cons (.cst (.int 1)) .nil)) (.cons (.cst (.int 1)) (.cons (.op (.bin .sub) (.cons (.call c__law_take (.cons (.var 0) (.cons (.cst (.int 19)) .nil))) (.cons (.cst (.int 9)) .nil))) .nil)))))) .nil))) (.last (.var 6) (.rng (.cons (.cst (.int 2)) .nil)) .nil)))
  (.cons (.par [.tg (.var 4), .tg (.var 5)] (.cons (.op .tup (.cons (.op .idx (.cons (.var 2) (.cons (.cst (.int 0)) .nil))) (.cons (.op .idx (.cons (.var 3) (.cons (.cst (.int 0)) .nil))) .nil))) (.cons (.op .tup (.cons (.op .idx (.cons (.var 2) (.cons (.cst (.int 1)) .nil))) (.cons (.op .idx (.cons (.var 3) (.cons (.cst (.int 1)) .nil))) .nil))) .nil)))
  (.cons (.ret (.ite (.op (.cmp .ne) (.cons (.var 4) (.cons (.var 5) .nil))) (.op .tuple (.cons (.op .sorted (.cons (.op .lst (.cons (.var 4) (.cons (.var 5) .nil))) .nil)) .nil)) (.op .tup (.cons (.var 4) .nil))))
  .nil))))))))⟩
def fn_draw_measure (c__law_one_of c__law_take c__law_draw_terms : Nat) : Fn := ⟨"_law_draw_measure", [true, false], 4,
  (.cons (.asg (.var 2) (.call c__law_one_of (.cons (.var 0) (.cons (.op .lst (.cons (.cst (.str "sum")) (.cons (.cst (.str "sum")) (.cons (.cst (.str "max")) (.cons (.cst (.str "max")) (.cons (.cst (.str "late")) .nil)))))) .nil))))
  (.cons (.ite (.op (.cmp .eq) (.cons (.var 2) (.cons (.cst (.str "late")) .nil)))
    (.cons (.ret (.op .tup (.cons (.var 2) (.cons (.op .tuple (.cons (.comp [3] (.op (.bin .add) (.cons (.cst (.int 1)) (.cons (.call c__law_take (.cons (.var 0) (.cons (.cst (.int 9)) .nil))) .nil))) (.last (.var 3) (.rng (.cons (.var 1) .nil)) .nil)) .nil)) .nil))))
    .nil)
    .nil)
  (.cons (.ret (.op .tup (.cons (.var 2) (.cons (.op .tuple (.cons (.comp [3] (.call c__law_draw_terms (.cons (.var 0) .nil)) (.last (.var 3) (.rng (.cons (.var 1) .nil)) .nil)) .nil)) .nil))))
  .nil)))⟩
def fn_draw_rule (c__law_take c__law_one_of : Nat) : Fn := ⟨"_law_draw_rule", [true, false], 5,
  (.cons (.asg (.var 2) (.op .lst .nil))
  (.cons (.for (.var 3) (.rng (.cons (.var 1) .nil))
    (.cons (.exp (.meth .append 2 (.cons (.op .tup (.cons (.op (.bin .sub) (.cons (.call c__law_take (.cons (.var 0) (.cons (.cst (.int 7)) .nil))) (.cons (.cst (.int 3)) .nil))) (.cons (.op (.bin .sub) (.cons (.call c__law_take (.cons (.var 0) (.cons (.cst (.int 5)) .nil))) (.cons (.cst (.int 2)) .nil))) .nil))) .nil)))
    .nil))
  (.cons (.asg (.var 4) (.op .lst (.cons (.op (.bin .mul) (.cons (.op .tup (.cons (.op .tup (.cons (.cst (.int 1)) (.cons (.cst (.int 0)) .nil))) .nil)) (.cons (.var 1) .nil))) (.cons (.op (.bin .mul) (.cons (.op .tup (.cons (.op .tup (.cons (.cst (.int 0)) (.cons (.cst (.int 1)) .nil))) .nil)) (.cons (.var 1) .nil))) (.cons (.op (.bin .mul) (.cons (.op .tup (.cons (.op .tup (.cons (.op .neg (.cons (.cst (.int 1)) .nil)) (.cons (.cst (.int 1)) .nil))) .nil)) (.cons (.var 1) .nil))) (.cons (.op .tuple (.cons (.var 2) .nil)) (.cons (.op .tuple (.cons (.var 2) .nil)) (.cons (.op .tuple (.cons (.var 2) .nil)) .nil))))))))
  (.cons (.ret (.call c__law_one_of (.cons (.var 0) (.cons (.var 4) .nil))))
  .nil))))⟩
def fn_draw_job (c__law_take : Nat) : Fn := ⟨"_law_draw_job", [true, false, false], 4,
  (.cons (.asg (.var 3) (.ite (.op (.cmp .gt) (.cons (.call c__law_take (.cons (.var 0) (.cons (.cst (.int 20)) .nil))) (.cons (.cst (.int 0)) .nil))) (.var 2) (.op (.bin .pow) (.cons (.cst (.int 10)) (.cons (.cst (.int 20)) .nil)))))
  (.cons (.ret (.op .tup (.cons (.call c__law_take (.cons (.var 0) (.cons (.var 1) .nil))) (.cons (.op (.bin .add) (.cons (.cst (.int 1)) (.cons (.call c__law_take (.cons (.var 0) (.cons (.var 3) .nil))) .nil))) (.cons (.call c__law_take (.cons (.var 0) (.cons (.op (.bin .add) (.cons (.op (.bin .mul) (.cons (.cst (.int 2)) (.cons (.var 3) .nil))) (.cons (.cst (.int 1)) .nil))) .nil))) .nil)))))
  .nil))⟩
theorem draw_job_S {T : List Fn} {f c1 : Nat} (h : T[f]? = some (fn_draw_job c1)) (hT : S_take T c1) : S_draw_job T f := by
  refine ⟨MuT_of h, fun n k p m hi hp hk hm1 hm2 hh1 hh2 => ?_⟩
  refine Wc_of h rfl ?_
  walk_at "mq"
  walk_at "tk"
  refine kite_d (fun h2 => ?_) (fun h2 => ?_)
  · walk_at "mq"
    walk_at "tk"
    walk_at "tk"
    walk_at "tk"
    rename_i a _ ha0 ha1 _ b _ hb0 hb1 _ c p' hc0 hc1 hp'
    obtain ⟨q, rfl⟩ := Int.eq_ofNat_of_zero_le ha0
    exact ⟨⟨q, 1 + b, c⟩, _, rfl, rfl, ⟨ha1, by show 1 ≤ 1 + b; omega, hc0⟩, by show 1 + b ≤ _; omega, by show c ≤ _; omega, hp'.mono (by omega)⟩
  · walk_at "mq"
    walk_at "tk"
    walk_at "tk"
    walk_at "tk"
    rename_i a _ ha0 ha1 _ b _ hb0 hb1 _ c p' hc0 hc1 hp'
    obtain ⟨q, rfl⟩ := Int.eq_ofNat_of_zero_le ha0
    exact ⟨⟨q, 1 + b, c⟩, _, rfl, rfl, ⟨ha1, by show 1 ≤ 1 + b; omega, hc0⟩, by show 1 + b ≤ _; omega, by show c ≤ _; omega, hp'.mono (by omega)⟩

theorem sort2 (a b : Int × Int) (h : a ≠ b) : (sortD [pairD a, pairD b] = [pairD a, pairD b] ∧ (a.1 < b.1 ∨ (a.1 = b.1 ∧ a.2 < b.2))) ∨ (sortD [pairD a, pairD b] = [pairD b, pairD a] ∧ (b.1 < a.1 ∨ (b.1 = a.1 ∧ b.2 < a.2))) := by
  have e : sortD [pairD a, pairD b] = if !PySem.W.dataLt (pairD b) (pairD a) then [pairD a, pairD b] else [pairD b, pairD a] := by
    unfold sortD
    simp [List.mergeSort, List.MergeSort.Internal.splitInTwo, List.merge]
  rw [e, ii_lt]
  by_cases h1 : (b.1 < a.1 ∨ (b.1 = a.1 ∧ b.2 < a.2))
  · right
    simp [h1]
  · left
    have : a.1 < b.1 ∨ (a.1 = b.1 ∧ a.2 < b.2) := by
      obtain ⟨a1, a2⟩ := a
      obtain ⟨b1, b2⟩ := b
      simp only [ne_eq, Prod.mk.injEq] at h h1 ⊢
      omega
    simp [h1, this]
theorem sortOk_pairs (a b : Int × Int) : sortOk [pairD a, pairD b] = true := by
  unfold sortOk alikeD pairD
  simp [PySem.W.alike, PySem.W.alikeAll]
theorem draw_terms_S {T : List Fn} {f c1 c2 : Nat} (h : T[f]? = some (fn_draw_terms c1 c2)) (hT : S_take T c1) (hO : S_one_of T c2) : S_draw_terms T f := by
  refine ⟨MuT_of h, fun n k p hp hk => ?_⟩
  refine Wc_of h rfl ?_
  walk_at "mq"
  walk_at "tk"
  refine kite_d (fun h2 => ?_) (fun h2 => ?_)
  · walk_at "mq"
    walk_at "tk"
    walk_at "tk"
    rename_i a _ ha0 ha1 _ b p' hb0 hb1 hp'
    exact ⟨[(1 + a, b - 2)], _, rfl, rfl, ⟨⟨_, .inl rfl⟩, by simp [small]; omega⟩, hp'.mono (by omega)⟩
  walk_at "mq"
  refine kite_d (fun h3 => ?_) (fun h3 => ?_)
  · walk_at "mq"
    rename_i a p' ha0 ha1 hp'
    exact ⟨[(1, -1)], _, rfl, rfl, ⟨⟨_, .inl rfl⟩, by simp [small]⟩, hp'.mono (by omega)⟩
  walk_at "mq"
  refine kite_d (fun h4 => ?_) (fun h4 => ?_)
  · walk_at "mq"
    rename_i a p' ha0 ha1 hp'
    exact ⟨[(0, 0), (1, -1)], _, rfl, rfl, ⟨⟨_, .inr ⟨_, rfl, by decide⟩⟩, by simp [small]⟩, hp'.mono (by omega)⟩
  walk_at "mq"
  rename_i z p0 hz0 hz1 hp0
  have e2 : ∀ (a b : PyData), (rngL 0 2) = [.int 0, .int 1] := fun _ _ => rfl
  refine Wk_rng (fun i acc ρ => ∃ (zs : List Int) (p : PyData) (o : Option (Bool × PyData)), acc = zs.map .int ∧ zs.length = i ∧ (∀ z ∈ zs, small z) ∧ ρ = [some (true, p), some (false, .int z), none, none, none, none, o] ∧ Pen (k + 1 + 2 * i) p) ⟨[], p0, none, rfl, rfl, by simp, rfl, hp0.mono (by omega)⟩ ?_ ?_
  · rintro i _ _ hi ⟨zs, p, o, rfl, hl, hs, rfl, hp⟩
    walk_at "mq"
    walk_at "tk"
    walk_at "oo"
    rename_i y _ hy0 hy1 _ x p' hx hp'
    obtain ⟨w, rfl, hw⟩ : ∃ w, x = .int w ∧ small w := by
      simp only [List.mem_cons, List.not_mem_nil, or_false] at hx
      rcases hx with h | h | h | h | h | h <;> exact ⟨_, h, by unfold small; omega⟩
    exact ⟨zs ++ [w], p', _, by simp, by simp [hl], by
      intro v hv
      rcases List.mem_append.mp hv with hv | hv
      · exact hs v hv
      · simp at hv; subst hv; exact hw, rfl, hp'.mono (by omega)⟩
  rintro _ _ ⟨zs, p, o, rfl, hl, hs, rfl, hp⟩
  have hl : zs.length = 2 := hl
  match zs, hl with
  | [u1, u2], _ =>
  refine ⟨rfl, ?_⟩
  simp only [back]
  walk_at "mq"
  refine Wk_rng (fun i acc ρ => ∃ (zs : List Int) (p : PyData) (o : Option (Bool × PyData)), acc = zs.map .int ∧ zs.length = i ∧ (∀ z ∈ zs, small z) ∧ ρ = [some (true, p), some (false, .int z), some (true, .list [.int u1, .int u2]), none, none, none, o] ∧ Pen (k + 5 + 2 * i) p) ⟨[], p, none, rfl, rfl, by simp, rfl, hp.mono (by simp; omega)⟩ ?_ ?_
  · rintro i _ _ hi ⟨zs, p, o, rfl, hl, hs, rfl, hp⟩
    walk_at "mq"
    walk_at "tk"
    walk_at "oo"
    rename_i y _ hy0 hy1 _ x p' hx hp'
    obtain ⟨w, rfl, hw⟩ : ∃ w, x = .int w ∧ small w := by
      simp only [List.mem_cons, List.not_mem_nil, or_false] at hx
      rcases hx with h | h | h | h | h <;> exact ⟨_, h, by unfold small; omega⟩
    exact ⟨zs ++ [w], p', _, by simp, by simp [hl], by
      intro v hv
      rcases List.mem_append.mp hv with hv | hv
      · exact hs v hv
      · simp at hv; subst hv; exact hw, rfl, hp'.mono (by omega)⟩
  rintro _ _ ⟨ws, p, o, rfl, hl, hs2, rfl, hp⟩
  have hl : ws.length = 2 := hl
  match ws, hl with
  | [v1, v2], _ =>
  refine ⟨rfl, ?_⟩
  simp only [back]
  walk_at "mq"
  have f1 : small u1 := hs u1 (by simp)
  have f2 : small u2 := hs u2 (by simp)
  have f3 : small v1 := hs2 v1 (by simp)
  have f4 : small v2 := hs2 v2 (by simp)
  refine ⟨rfl, ?_⟩
  have e3 : PyData.eqv (.tuple [.int u1, .int v1]) (.tuple [.int u2, .int v2]) = decide ((u1, v1) = (u2, v2)) := eqv_pair (u1, v1) (u2, v2)
  rw [e3]
  refine kite_d (fun h5 => ?_) (fun h5 => ?_)
  · walk_at "mq"
    exact ⟨[(u1, v1)], _, rfl, rfl, ⟨⟨_, .inl rfl⟩, by simp [f1, f3]⟩, hp.mono (by simp; omega)⟩
  · walk_at "mq"
    have e4 := sortOk_pairs (u1, v1) (u2, v2)
    have e5 := (okDs_pairs [(u1, v1), (u2, v2)]).1
    refine ⟨by rw [Bool.and_eq_true]; exact ⟨e4, e5⟩, ?_⟩
    rcases sort2 (u1, v1) (u2, v2) h5 with ⟨e6, h6⟩ | ⟨e6, h6⟩
    · exact ⟨[(u1, v1), (u2, v2)], _, congrArg (fun z => (false, PyData.tuple z)) e6, rfl, ⟨⟨_, .inr ⟨_, rfl, h6⟩⟩, by simp [f1, f2, f3, f4]⟩, hp.mono (by simp; omega)⟩
    · exact ⟨[(u2, v2), (u1, v1)], _, congrArg (fun z => (false, PyData.tuple z)) e6, rfl, ⟨⟨_, .inr ⟨_, rfl, h6⟩⟩, by simp [f1, f2, f3, f4]⟩, hp.mono (by simp; omega)⟩
theorem ms_late (b : Bool) : ((if b then sMax else sSum) = Str.ofString "late") = False := by
  cases b
  · exact lateNe1
  · exact lateNe2
theorem draw_measure_S {T : List Fn} {f c1 c2 c3 : Nat} (h : T[f]? = some (fn_draw_measure c1 c2 c3)) (hO : S_one_of T c1) (hT : S_take T c2) (hD : S_draw_terms T c3) : S_draw_measure T f := by
  refine ⟨MuT_of h, fun n k p m hp hk hm1 hm2 => ?_⟩
  refine Wc_of h rfl ?_
  walk_at "mq"
  walk_at "oo"
  rename_i x p' hx hp'
  have hx : (∃ b : Bool, x = .str (if b then sMax else sSum)) ∨ x = .str sLate := by
    simp only [List.mem_cons, List.not_mem_nil, or_false] at hx
    rcases hx with h | h | h | h | h
    · exact .inl ⟨false, h⟩
    · exact .inl ⟨false, h⟩
    · exact .inl ⟨true, h⟩
    · exact .inl ⟨true, h⟩
    · exact .inr h
  rcases hx with ⟨b, rfl⟩ | rfl
  · walk_at "mp"
    simp only [ms_late]
    walk_at "mq"
    refine Wk_rng (fun i acc ρ => ∃ (cs : List (List (Int × Int))) (p : PyData) (o : Option (Bool × PyData)), acc = cs.map pairsD ∧ cs.length = i ∧ (∀ ts ∈ cs, termsOk ts) ∧ ρ = [some (true, p), some (false, .int m), some (false, .str (if b then sMax else sSum)), o] ∧ Pen (k + 1 + 9 * i) p) ⟨[], p', none, rfl, rfl, by simp, rfl, hp'.mono (by omega)⟩ ?_ ?_
    · rintro i _ _ hi ⟨cs, p, o, rfl, hl, hs, rfl, hp⟩
      walk_at "mq"
      refine call_ok hD.1 (hD.2 _ _ _ hp (by omega)) rfl rfl ?_
      rintro _ _ ⟨ts, p', rfl, rfl, hts, hp'⟩
      walk_at "mq"
      exact ⟨cs ++ [ts], p', _, by simp, by simp [hl], by
        intro v hv
        rcases List.mem_append.mp hv with hv | hv
        · exact hs v hv
        · simp at hv; subst hv; exact hts, rfl, hp'.mono (by omega)⟩
    rintro _ _ ⟨cs, p, o, rfl, hl, hs, rfl, hp⟩
    refine ⟨szOk_of (by rw [List.length_map, hl]; omega), ?_⟩
    walk_at "mq"
    refine ⟨.terms b cs, p, ?_, rfl, hs, ?_, hp.mono (by omega)⟩
    · cases b <;> rfl
    · show (cs.length : Int) = m
      omega
  · walk_at "mq"
    refine Wk_rng (fun i acc ρ => ∃ (ws : List Int) (p : PyData) (o : Option (Bool × PyData)), acc = ws.map .int ∧ ws.length = i ∧ (∀ w ∈ ws, 1 ≤ w ∧ w ≤ 9) ∧ ρ = [some (true, p), some (false, .int m), some (false, .str sLate), o] ∧ Pen (k + 1 + 9 * i) p) ⟨[], p', none, rfl, rfl, by simp, rfl, hp'.mono (by omega)⟩ ?_ ?_
    · rintro i _ _ hi ⟨ws, p, o, rfl, hl, hs, rfl, hp⟩
      walk_at "mq"
      walk_at "tk"
      rename_i w p' hw0 hw1 hp'
      exact ⟨ws ++ [1 + w], p', _, by simp, by simp [hl], by
        intro v hv
        rcases List.mem_append.mp hv with hv | hv
        · exact hs v hv
        · simp at hv; subst hv; omega, rfl, hp'.mono (by omega)⟩
    rintro _ _ ⟨ws, p, o, rfl, hl, hs, rfl, hp⟩
    refine ⟨szOk_of (by rw [List.length_map, hl]; omega), ?_⟩
    walk_at "mq"
    refine ⟨.late ws, p, rfl, rfl, hs, ?_, hp.mono (by omega)⟩
    show (ws.length : Int) = m
    omega
theorem rep_pair (j : Int) (a : Int × Int) : (List.replicate j.toNat [pairD a]).flatten = (List.replicate j.toNat a).map pairD := by
  induction j.toNat with
  | zero => rfl
  | succ n ih => rw [List.replicate_succ, List.flatten_cons, ih]; rfl
theorem draw_rule_S {T : List Fn} {f c1 c2 : Nat} (h : T[f]? = some (fn_draw_rule c1 c2)) (hT : S_take T c1) (hO : S_one_of T c2) : S_draw_rule T f := by
  refine ⟨MuT_of h, fun n k p m hp hk hm1 hm2 => ?_⟩
  refine Wc_of h rfl ?_
  walk_at "mq"
  refine Wf_rng (fun i ρ => ∃ (rs : List (Int × Int)) (p : PyData) (o : Option (Bool × PyData)), rs.length = i ∧ (∀ r ∈ rs, small r.1 ∧ small r.2) ∧ ρ = [some (true, p), some (false, .int m), some (true, .list (rs.map pairD)), o, none] ∧ Pen (k + 2 * i) p) ⟨[], p, none, rfl, by simp, rfl, hp.mono (by omega)⟩ ?_ ?_
  · rintro i _ hi ⟨rs, p, o, hl, hs, rfl, hp⟩
    walk_at "mq"
    walk_at "tk"
    walk_at "tk"
    rename_i a _ ha0 ha1 _ b p' hb0 hb1 hp'
    refine ⟨szOk_of (by rw [List.length_map, hl]; omega), rs ++ [(a - 3, b - 2)], p', _, by simp [hl], ?_, by rw [List.map_append]; rfl, hp'.mono (by omega)⟩
    intro v hv
    rcases List.mem_append.mp hv with hv | hv
    · exact hs v hv
    · simp at hv
      subst hv
      unfold small
      omega
  · rintro _ ⟨rs, p, o, hl, hs, rfl, hp⟩
    walk_at "mq"
    walk_at "oo"
    rename_i x p' hx hp'
    have fin : ∀ rs : List (Int × Int), (∀ r ∈ rs, small r.1 ∧ small r.2) → rs.length = m.toNat → ∃ rs' q, (false, PyData.tuple (rs.map pairD)) = (false, pairsD rs') ∧ [p'] = [q] ∧ (∀ r ∈ rs', small r.1 ∧ small r.2) ∧ (rs'.length : Int) = m ∧ Pen (k + 10) q := fun rs h1 h2 => ⟨rs, p', rfl, rfl, h1, by omega, hp'.mono (by omega)⟩
    have rep : ∀ a : Int × Int, small a.1 → small a.2 → ∃ rs' q, (false, PyData.tuple (List.replicate m.toNat [pairD a]).flatten) = (false, pairsD rs') ∧ [p'] = [q] ∧ (∀ r ∈ rs', small r.1 ∧ small r.2) ∧ (rs'.length : Int) = m ∧ Pen (k + 10) q := by
      intro a h1 h2
      rw [rep_pair]
      exact fin _ (fun r hr => by rw [List.eq_of_mem_replicate hr]; exact ⟨h1, h2⟩) (by simp)
    simp only [List.mem_cons, List.not_mem_nil, or_false] at hx
    rcases hx with rfl | rfl | rfl | rfl | rfl | rfl
    · exact rep (1, 0) (by simp [small]) (by simp [small])
    · exact rep (0, 1) (by simp [small]) (by simp [small])
    · exact rep (-1, 1) (by simp [small]) (by simp [small])
    · exact fin rs hs hl
    · exact fin rs hs hl
    · exact fin rs hs hl


def fn_ends : Fn := ⟨"ends", [false, false, false], 6,
  (.cons (.par [.tg (.var 3), .tg (.var 4)] (.cons (.op (.bin .mul) (.cons (.op .lst (.cons (.cst (.int 0)) .nil)) (.cons (.op .len (.cons (.var 0) .nil)) .nil))) (.cons (.var 1) .nil)))
  (.cons (.for (.var 5) (.val (.var 2))
    (.cons (.aug 4 .add (.op .idx (.cons (.op .idx (.cons (.var 0) (.cons (.var 5) .nil))) (.cons (.cst (.int 1)) .nil))))
    (.cons (.set 3 (.var 5) (.var 4))
    .nil)))
  (.cons (.ret (.op .tuple (.cons (.var 3) .nil)))
  .nil)))⟩
def fn_joined : Fn := ⟨"joined", [false, false], 2,
  (.cons (.ite (.op (.cmp .eq) (.cons (.var 0) (.cons (.cst (.str "max")) .nil)))
    (.cons (.ret (.ite (.op (.cmp .ne) (.cons (.var 1) (.cons (.op .lst .nil) .nil))) (.op .max1 (.cons (.var 1) .nil)) (.cst .non)))
    .nil)
    .nil)
  (.cons (.ret (.op .sum (.cons (.var 1) .nil)))
  .nil))⟩
def fn_value_of (c_ends c_joined c_cost : Nat) : Fn := ⟨"value_of", [false, false, false, false], 7,
  (.cons (.asg (.var 4) (.call c_ends (.cons (.var 1) (.cons (.var 2) (.cons (.var 3) .nil)))))
  (.cons (.ret (.call c_joined (.cons (.op .idx (.cons (.var 0) (.cons (.cst (.int 0)) .nil))) (.cons (.comp [5, 6] (.call c_cost (.cons (.var 0) (.cons (.var 5) (.cons (.var 6) .nil)))) (.last (.tup (.cons (.var 5) (.cons (.var 6) .nil))) (.zip true (.cons (.var 1) (.cons (.var 4) .nil))) .nil)) .nil))))
  .nil))⟩
def fn_allows (c_key : Nat) : Fn := ⟨"allows", [false, false, false], 5,
  (.cons (.asg (.var 3) (.comp [4] (.call c_key (.cons (.var 0) (.cons (.op .idx (.cons (.var 1) (.cons (.var 4) .nil))) .nil))) (.last (.var 4) (.val (.var 2)) .nil)))
  (.cons (.ret (.op (.cmp .eq) (.cons (.var 3) (.cons (.op .sorted (.cons (.var 3) .nil)) .nil))))
  .nil))⟩
def endStep (js : List Job) (a : List Int × Int) (i : Nat) : List Int × Int := (a.1.set i (a.2 + (jobAt js i).p), a.2 + (jobAt js i).p)
def endsOf (js : List Job) (s : Int) (os : List Nat) : List Int := (os.foldl (endStep js) (List.replicate js.length 0, s)).1
theorem endStep_len (js : List Job) : ∀ (os : List Nat) (a : List Int × Int), (os.foldl (endStep js) a).1.length = a.1.length
  | [], a => rfl
  | i :: os, a => by
    rw [List.foldl_cons, endStep_len js os]
    simp [endStep]
theorem endsOf_len (js : List Job) (s : Int) (os : List Nat) : (endsOf js s os).length = js.length := by
  unfold endsOf
  rw [endStep_len, List.length_replicate]
def valuesOf (M : Meas) (js : List Job) (s : Int) (os : List Nat) : List Int := List.zipWith (fun j e => M.cost j e) js (endsOf js s os)
def joinD (M : Meas) (zs : List Int) : PyData := match M, zs with
  | .terms true _, [] => .none
  | .terms true _, z :: zs => .int (maxL (z :: zs))
  | _, zs => .int zs.sum
def S_ends (T : List Fn) (f : Nat) : Prop := MuT T f = [false, false, false] ∧ ∀ (n : Nat) (js : List Job) (s : Int) (os : List Nat), js.length ≤ 1000 → (∀ i ∈ os, i < js.length) → Wc (run T (n + 1)) f [(false, lotD js), (false, .int s), (false, ordD os)] fun r fin => r = (false, .tuple ((endsOf js s os).map .int)) ∧ fin = []
def S_joined (T : List Fn) (f : Nat) : Prop := MuT T f = [false, false] ∧ ∀ (n : Nat) (M : Meas) (zs : List Int), Wc (run T (n + 1)) f [(false, .str M.way), (false, .list (zs.map .int))] fun r fin => r = (false, joinD M zs) ∧ fin = []
def S_value_of (T : List Fn) (f : Nat) : Prop := MuT T f = [false, false, false, false] ∧ ∀ (n : Nat) (M : Meas) (js : List Job) (s : Int) (os : List Nat), M.ok → js.length ≤ 1000 → (∀ j ∈ js, j.k < M.kinds) → (∀ i ∈ os, i < js.length) → Wc (run T (n + 2)) f [(false, measD M), (false, lotD js), (false, .int s), (false, ordD os)] fun r fin => r = (false, joinD M (valuesOf M js s os)) ∧ fin = []
theorem ends_S {T : List Fn} {f : Nat} (h : T[f]? = some fn_ends) : S_ends T f := by
  refine ⟨MuT_of h, fun n js s os hl ho => ?_⟩
  refine Wc_of h rfl ?_
  unfold lotD ordD
  walk_at "mq"
  have e0 : (List.replicate ((List.map jobD js).length : Int).toNat [PyData.int 0]).flatten = (List.replicate js.length (0 : Int)).map .int := by
    rw [rep_one, List.map_replicate, List.length_map, Int.toNat_natCast]
  rw [e0]
  refine ⟨repOk_of (by rw [List.length_map]; omega) (by rw [List.length_map]; omega) (by rw [List.length_map]; omega), ?_⟩
  refine Wf_ixF (fun k ρ => ∃ o5, ρ = [some (false, .tuple (js.map jobD)), some (false, .int s), some (false, .tuple (os.map fun (i : Nat) => .int i)), some (true, .list (((os.take k).foldl (endStep js) (List.replicate js.length 0, s)).1.map .int)), some (false, .int ((os.take k).foldl (endStep js) (List.replicate js.length 0, s)).2), o5]) ⟨_, rfl⟩ ?_ ?_
  · rintro k y _ hy ⟨o5, rfl⟩
    rw [List.getElem?_map] at hy
    obtain ⟨i, hi, rfl⟩ := Option.map_eq_some_iff.mp hy
    have hij := ho i (List.mem_of_getElem? hi)
    have el := endStep_len js (os.take k) (List.replicate js.length 0, s)
    rw [List.length_replicate] at el
    have e1 : (os.take (k + 1)).foldl (endStep js) (List.replicate js.length 0, s) = endStep js ((os.take k).foldl (endStep js) (List.replicate js.length 0, s)) i := by
      rw [List.take_add_one, hi, List.foldl_append]
      rfl
    rw [e1]
    generalize (os.take k).foldl (endStep js) (List.replicate js.length 0, s) = st at el
    obtain ⟨es, tm⟩ := st
    have el : es.length = js.length := el
    walk_at "mq"
    rw [atD_map (g := jobD) (List.getElem?_eq_getElem hij)]
    unfold jobD
    walk_at "mq"
    have ej : jobAt js i = js[i] := getD_at hij
    rw [List.length_map, ixN_nat (by omega) (by omega), Int.toNat_natCast]
    walk_at "mq"
    simp only [endStep, ej, List.map_set]
    exact ⟨_, rfl⟩
  · rintro _ ⟨o5, rfl⟩
    walk_at "mq"
    rw [List.length_map, List.take_length]
    rfl
theorem way_max {M : Meas} (h : decide (M.way = Str.ofString "max") = false) (zs : List Int) : joinD M zs = .int zs.sum := by
  cases M with
  | late ws => rfl
  | terms b cs =>
    cases b with
    | false => rfl
    | true => exact absurd h (by show ¬ decide (sMax = Str.ofString "max") = false; decide)
theorem max_way (cs : List (List (Int × Int))) : decide ((Meas.terms true cs).way = Str.ofString "max") = true := by
  show decide (sMax = Str.ofString "max") = true
  decide
theorem way_not {M : Meas} (h : ¬ ∃ cs, M = .terms true cs) : decide (M.way = Str.ofString "max") = false := by
  cases M with
  | late ws => show decide (sLate = Str.ofString "max") = false; decide
  | terms b cs =>
    cases b with
    | false => show decide (sSum = Str.ofString "max") = false; decide
    | true => exact absurd ⟨cs, rfl⟩ h
theorem joined_S {T : List Fn} {f : Nat} (h : T[f]? = some fn_joined) : S_joined T f := by
  refine ⟨MuT_of h, fun n M zs => ?_⟩
  refine Wc_of h rfl ?_
  walk_at "mq"
  by_cases hm : ∃ cs, M = .terms true cs
  · obtain ⟨cs, rfl⟩ := hm
    rw [max_way]
    walk_at "mq"
    refine ⟨?_, ?_⟩
    · rw [okD_ints]
      rfl
    · cases zs with
      | nil =>
        have e7 : (PyData.list ((List.nil : List Int).map PyData.int)).eqv (.list []) = true := rfl
        rw [e7]
        walk_at "mq"
        rfl
      | cons z zs =>
        have e7 : (PyData.list ((z :: zs).map PyData.int)).eqv (.list []) = false := rfl
        rw [e7]
        walk_at "mq"
        rw [show (PyData.int z :: zs.map PyData.int) = (z :: zs).map PyData.int from rfl, cmpOk_ints, kd_max_ints (by simp)]
        refine ⟨rfl, ?_⟩
        walk_at "mq"
        rfl
  · rw [way_max (way_not hm), way_not hm]
    walk_at "mq"
    rw [sumI_ints]
    walk_at "mq"
/-- the cost of a job that ends then -/
def jobI : PyData → Job
  | .tuple [.int k, .int p, .int d] => ⟨k.toNat, p, d⟩
  | _ => ⟨0, 0, 0⟩
def zc (M : Meas) : PyData → List PyData
  | .tuple [a, .int e] => [.int (M.cost (jobI a) e)]
  | _ => []
theorem jobI_eq (j : Job) : jobI (jobD j) = j := by
  obtain ⟨k, p, d⟩ := j
  rfl
theorem zc_zip (M : Meas) : ∀ (js : List Job) (es : List Int), ((((js.map jobD).zip (es.map PyData.int)).map fun p => [p.1, p.2]).map PyData.tuple).flatMap (zc M) = (List.zipWith (fun j e => M.cost j e) js es).map .int
  | [], es => by simp
  | j :: js, [] => by simp
  | j :: js, e :: es => by
    have := zc_zip M js es
    simp only [List.map_cons, List.zip_cons_cons, List.flatMap_cons, List.zipWith_cons_cons]
    rw [this]
    show PyData.int (M.cost (jobI (jobD j)) e) :: _ = _
    rw [jobI_eq]
    rfl
theorem value_of_S {T : List Fn} {f c1 c2 c3 : Nat} (h : T[f]? = some (fn_value_of c1 c2 c3)) (hE : S_ends T c1) (hJ : S_joined T c2) (hC : S_cost T c3) : S_value_of T f := by
  refine ⟨MuT_of h, fun n M js s os hM hl hk ho => ?_⟩
  refine Wc_of h rfl ?_
  walk_at "mq"
  refine call_ok hE.1 (hE.2 _ js s os hl ho) rfl rfl ?_
  rintro _ _ ⟨rfl, rfl⟩
  walk_at "mq"
  walk_at "mj"
  have ea : asSeq (lotD js) = some (js.map jobD) := rfl
  rw [ea]
  walk_at "mq"
  have el := endsOf_len js s os
  refine ⟨by rw [List.length_map, List.length_map, el], ?_⟩
  refine Wk_pure2 (zc M) (fun y hy o o2 => ?_) ?_
  · obtain ⟨a, b, rfl, hm⟩ := zip_mem hy
    obtain ⟨h1, h2⟩ := List.of_mem_zip hm
    obtain ⟨j, hj, rfl⟩ := List.mem_map.mp h1
    obtain ⟨e, _, rfl⟩ := List.mem_map.mp h2
    walk_at "mq"
    refine call_ok hC.1 (hC.2 _ M j e hM (hk j hj)) rfl rfl ?_
    rintro _ _ ⟨rfl, rfl⟩
    walk_at "mq"
    exact ⟨rfl, _, _, rfl⟩
  · rw [zc_zip]
    have ev : List.zipWith (fun j e => M.cost j e) js (endsOf js s os) = valuesOf M js s os := rfl
    rw [ev]
    have lv : (valuesOf M js s os).length = js.length := by
      unfold valuesOf
      rw [List.length_zipWith, el]
      omega
    refine ⟨szOk_of (by rw [List.length_map, lv]; omega), ?_⟩
    walk_at "mq"
    refine call_ok hJ.1 (hJ.2 _ M (valuesOf M js s os)) rfl rfl ?_
    rintro _ _ ⟨rfl, rfl⟩
    walk_at "mq"
def S_allows (T : List Fn) (f : Nat) : Prop := MuT T f = [false, false, false] ∧ ∀ (n : Nat) (rs : List (Int × Int)) (js : List Job) (os : List Nat), bigs rs → os.length ≤ 1000 → (∀ i ∈ os, i < js.length) → (∀ j ∈ js, j.k < rs.length ∧ big j.p ∧ big j.d) → Wc (run T (n + 2)) f [(false, pairsD rs), (false, lotD js), (false, ordD os)] fun r fin => r = (false, .bool (inOrder (os.map fun i => keyOf rs (jobAt js i)))) ∧ fin = []
/-- the key of the job at that place -/
def keyI (rs : List (Int × Int)) (js : List Job) : PyData → List PyData
  | .int i => [.int (keyOf rs (jobAt js i.toNat))]
  | _ => []
theorem allows_S {T : List Fn} {f c1 : Nat} (h : T[f]? = some (fn_allows c1)) (hK : S_key T c1) : S_allows T f := by
  refine ⟨MuT_of h, fun n rs js os hrs hl ho hj => ?_⟩
  refine Wc_of h rfl ?_
  unfold lotD ordD
  walk_at "mq"
  refine Wk_pure1 (keyI rs js) (fun y hy o => ?_) ?_
  · obtain ⟨i, hi, rfl⟩ := List.mem_map.mp hy
    have hij := ho i hi
    have ej : jobAt js i = js[i] := getD_at hij
    have hjj := hj js[i] (List.getElem_mem hij)
    walk_at "mq"
    rw [atD_map (g := jobD) (List.getElem?_eq_getElem hij)]
    walk_at "mq"
    refine call_ok hK.1 (hK.2 _ rs js[i] hrs hjj.2.1 hjj.2.2 hjj.1) rfl rfl ?_
    rintro _ _ ⟨rfl, rfl⟩
    walk_at "mq"
    rw [← ej]
    exact ⟨rfl, _, rfl⟩
  · have e3 : (os.map fun (i : Nat) => PyData.int i).flatMap (keyI rs js) = (os.map fun i => keyOf rs (jobAt js i)).map .int := by
      rw [List.flatMap_map]
      simp only [keyI, flatMap_one, Int.toNat_natCast, List.map_map]
      rfl
    rw [e3]
    generalize hz : (os.map fun i => keyOf rs (jobAt js i)) = zs
    have hzl : zs.length ≤ 1000 := by rw [← hz, List.length_map]; exact hl
    refine ⟨szOk_of (by rw [List.length_map]; omega), ?_⟩
    walk_at "mq"
    obtain ⟨out, ho1, ho2⟩ := inOrder_eq zs
    rw [ho1, sortOk_ints, okDs_ints, okD_ints, okD_ints, eqv_ints, ho2]
    exact ⟨rfl, rfl, rfl⟩

def fn_is_order (c_is_integer : Nat) : Fn := ⟨"is_order", [false, false], 3,
  (.cons (.ite (.or (.cons (.op .not (.cons (.op (.isa [.tuple]) (.cons (.var 1) .nil)) .nil)) (.cons (.op .not (.cons (.op .all (.cons (.comp [2] (.call c_is_integer (.cons (.var 2) .nil)) (.last (.var 2) (.val (.var 1)) .nil)) .nil)) .nil)) .nil)))
    (.cons (.ret (.cst (.bl false)))
    .nil)
    .nil)
  (.cons (.ret (.op (.cmp .eq) (.cons (.op .sorted (.cons (.var 1) .nil)) (.cons (.op .lrng (.cons (.op .len (.cons (.var 0) .nil)) .nil)) .nil))))
  .nil))⟩
def fn_odd04 (c__law_one_of : Nat) : Fn := ⟨"_law_odd", [true], 1,
  (.cons (.ret (.call c__law_one_of (.cons (.var 0) (.cons (.op .lst (.cons (.cst .non) (.cons (.cst (.bl true)) (.cons (.cst (.bl false)) (.cons (.cst (.int 0)) (.cons (.cst (.int 1)) (.cons (.op .neg (.cons (.cst (.int 1)) .nil)) (.cons (.cst (.str "")) (.cons (.cst (.str "a")) (.cons (.op .tup .nil) (.cons (.op .lst .nil) (.cons (.cst .emp) (.cons (.op .tup (.cons (.cst (.int 0)) .nil)) (.cons (.op .tup (.cons (.cst (.int 0)) (.cons (.cst (.int 0)) .nil))) (.cons (.op .lst (.cons (.op .tup .nil) .nil)) (.cons (.op .tup (.cons (.op .tup .nil) .nil)) (.cons (.cst (.int 99)) (.cons (.op (.bin .pow) (.cons (.cst (.int 10)) (.cons (.cst (.int 20)) .nil))) .nil)))))))))))))))))) .nil))))
  .nil)⟩
def fn_bent04 (c__law_take c__law_one_of c__law_odd c__law_bent : Nat) : Fn := ⟨"_law_bent", [true, false], 5,
  (.cons (.ite (.and (.cons (.op (.isa [.int]) (.cons (.var 1) .nil)) (.cons (.op (.cmp .gt) (.cons (.call c__law_take (.cons (.var 0) (.cons (.cst (.int 4)) .nil))) (.cons (.cst (.int 0)) .nil))) .nil)))
    (.cons (.ret (.call c__law_one_of (.cons (.var 0) (.cons (.op .lst (.cons (.op (.bin .add) (.cons (.var 1) (.cons (.cst (.int 1)) .nil))) (.cons (.op (.bin .sub) (.cons (.var 1) (.cons (.cst (.int 1)) .nil))) (.cons (.ite (.chain .le .lt (.cst (.int 0)) (.var 1) (.cst (.int 2))) (.op (.cmp .eq) (.cons (.var 1) (.cons (.cst (.int 1)) .nil))) (.op .neg (.cons (.var 1) .nil))) (.cons (.op (.bin .mul) (.cons (.var 1) (.cons (.cst (.int 1000)) .nil))) .nil))))) .nil))))
    .nil)
    .nil)
  (.cons (.ite (.or (.cons (.op .not (.cons (.op (.isa [.tuple, .list]) (.cons (.var 1) .nil)) .nil)) (.cons (.op (.cmp .eq) (.cons (.op .len (.cons (.var 1) .nil)) (.cons (.cst (.int 0)) .nil))) (.cons (.op (.cmp .eq) (.cons (.call c__law_take (.cons (.var 0) (.cons (.cst (.int 8)) .nil))) (.cons (.cst (.int 0)) .nil))) .nil))))
    (.cons (.ret (.call c__law_odd (.cons (.var 0) .nil)))
    .nil)
    .nil)
  (.cons (.par [.tg (.var 2), .tg (.var 3), .tg (.var 4)] (.cons (.op .list (.cons (.var 1) .nil)) (.cons (.call c__law_take (.cons (.var 0) (.cons (.cst (.int 10)) .nil))) (.cons (.call c__law_take (.cons (.var 0) (.cons (.op .len (.cons (.var 1) .nil)) .nil))) .nil))))
  (.cons (.ite (.op (.cmp .lt) (.cons (.var 3) (.cons (.cst (.int 7)) .nil)))
    (.cons (.set 2 (.var 4) (.call c__law_bent (.cons (.var 0) (.cons (.op .idx (.cons (.var 2) (.cons (.var 4) .nil))) .nil))))
    .nil)
    (.cons (.asg (.var 2) (.op .idx (.cons (.op .lst (.cons (.op (.bin .add) (.cons (.slice (.var 2) .nil (.cons (.var 4) .nil) none) (.cons (.slice (.var 2) (.cons (.op (.bin .add) (.cons (.var 4) (.cons (.cst (.int 1)) .nil))) .nil) .nil none) .nil))) (.cons (.op (.bin .add) (.cons (.var 2) (.cons (.slice (.var 2) (.cons (.var 4) .nil) (.cons (.op (.bin .add) (.cons (.var 4) (.cons (.cst (.int 1)) .nil))) .nil) none) .nil))) (.cons (.slice (.var 2) .nil .nil (some (-1))) .nil)))) (.cons (.op (.bin .sub) (.cons (.var 3) (.cons (.cst (.int 7)) .nil))) .nil))))
    .nil))
  (.cons (.ret (.ite (.op (.cmp .eq) (.cons (.op (.isa [.tuple]) (.cons (.var 1) .nil)) (.cons (.op (.cmp .gt) (.cons (.call c__law_take (.cons (.var 0) (.cons (.cst (.int 12)) .nil))) (.cons (.cst (.int 0)) .nil))) .nil))) (.op .tuple (.cons (.var 2) .nil)) (.var 2)))
  .nil)))))⟩
def fn_law_value (c__law_cost : Nat) : Fn := ⟨"_law_value", [false, false, false, false], 7,
  (.cons (.par [.tg (.var 4), .tg (.var 5)] (.cons (.var 2) (.cons (.op .lst .nil) .nil)))
  (.cons (.for (.var 6) (.val (.var 3))
    (.cons (.asg (.var 4) (.op (.bin .add) (.cons (.var 4) (.cons (.op .idx (.cons (.op .idx (.cons (.var 1) (.cons (.var 6) .nil))) (.cons (.cst (.int 1)) .nil))) .nil))))
    (.cons (.exp (.meth .append 5 (.cons (.call c__law_cost (.cons (.var 0) (.cons (.op .idx (.cons (.var 1) (.cons (.var 6) .nil))) (.cons (.var 4) .nil)))) .nil)))
    .nil)))
  (.cons (.ite (.op (.cmp .eq) (.cons (.op .idx (.cons (.var 0) (.cons (.cst (.int 0)) .nil))) (.cons (.cst (.str "max")) .nil)))
    (.cons (.ret (.ite (.op (.cmp .ne) (.cons (.var 5) (.cons (.op .lst .nil) .nil))) (.op .max1 (.cons (.var 5) .nil)) (.cst .non)))
    .nil)
    .nil)
  (.cons (.ret (.op .sum (.cons (.var 5) .nil)))
  .nil))))⟩
def fn_law_is_allowed (c__law_key : Nat) : Fn := ⟨"_law_is_allowed", [false, false, false], 7,
  (.cons (.asg (.var 3) (.comp [4] (.call c__law_key (.cons (.var 0) (.cons (.op .idx (.cons (.var 1) (.cons (.var 4) .nil))) .nil))) (.last (.var 4) (.val (.var 2)) .nil)))
  (.cons (.ret (.op (.cmp .nin) (.cons (.cst (.bl false)) (.cons (.comp [5, 6] (.op (.cmp .le) (.cons (.var 5) (.cons (.var 6) .nil))) (.last (.tup (.cons (.var 5) (.cons (.var 6) .nil))) (.zip false (.cons (.var 3) (.cons (.slice (.var 3) (.cons (.cst (.int 1)) .nil) .nil none) .nil))) .nil)) .nil))))
  .nil))⟩
def fn_law_is_whole : Fn := ⟨"_law_is_whole", [false], 1,
  (.cons (.ret (.and (.cons (.op (.isa [.int]) (.cons (.var 0) .nil)) (.cons (.op .not (.cons (.op (.isa [.bool]) (.cons (.var 0) .nil)) .nil)) .nil))))
  .nil)⟩
def fn_draw_start (c__law_one_of c__law_take : Nat) : Fn := ⟨"_law_draw_start", [true], 1,
  (.cons (.ret (.call c__law_one_of (.cons (.var 0) (.cons (.op .lst (.cons (.cst (.int 0)) (.cons (.cst (.int 0)) (.cons (.cst (.int 1)) (.cons (.call c__law_take (.cons (.var 0) (.cons (.cst (.int 30)) .nil))) (.cons (.call c__law_take (.cons (.var 0) (.cons (.cst (.int 30)) .nil))) (.cons (.op (.bin .add) (.cons (.op (.bin .pow) (.cons (.cst (.int 10)) (.cons (.cst (.int 20)) .nil))) (.cons (.call c__law_take (.cons (.var 0) (.cons (.cst (.int 9)) .nil))) .nil))) .nil))))))) .nil))))
  .nil)⟩
def fn_drawn_order (c__law_take : Nat) : Fn := ⟨"_law_drawn_order", [true, false], 4,
  (.cons (.par [.tg (.var 2), .tg (.var 3)] (.cons (.op .lrng (.cons (.var 1) .nil)) (.cons (.op .lst .nil) .nil)))
  (.cons (.while (.op (.cmp .ne) (.cons (.var 2) (.cons (.op .lst .nil) .nil)))
    (.cons (.exp (.meth .append 3 (.cons (.meth .pop 2 (.cons (.call c__law_take (.cons (.var 0) (.cons (.op .len (.cons (.var 2) .nil)) .nil))) .nil)) .nil)))
    .nil))
  (.cons (.ret (.op .tuple (.cons (.var 3) .nil)))
  .nil)))⟩
def fn_law_is_order (c__law_is_whole : Nat) : Fn := ⟨"_law_is_order", [false, false], 3,
  (.cons (.ite (.or (.cons (.op .not (.cons (.op (.isa [.tuple]) (.cons (.var 1) .nil)) .nil)) (.cons (.op (.cmp .isin) (.cons (.cst (.bl false)) (.cons (.comp [2] (.call c__law_is_whole (.cons (.var 2) .nil)) (.last (.var 2) (.val (.var 1)) .nil)) .nil))) .nil)))
    (.cons (.ret (.cst (.bl false)))
    .nil)
    .nil)
  (.cons (.ret (.op (.cmp .eq) (.cons (.op .sorted (.cons (.var 1) .nil)) (.cons (.op .lrng (.cons (.var 0) .nil)) .nil))))
  .nil))⟩
def fn_draw_lot04 (c__law_draw_job c__law_take : Nat) : Fn := ⟨"_law_draw_lot", [true, false, false, false], 6,
  (.cons (.asg (.var 4) (.comp [5] (.call c__law_draw_job (.cons (.var 0) (.cons (.var 1) (.cons (.var 3) .nil)))) (.last (.var 5) (.rng (.cons (.call c__law_take (.cons (.var 0) (.cons (.op (.bin .add) (.cons (.var 2) (.cons (.cst (.int 1)) .nil))) .nil))) .nil)) .nil)))
  (.cons (.ite (.and (.cons (.op (.cmp .gt) (.cons (.op .len (.cons (.var 4) .nil)) (.cons (.cst (.int 1)) .nil))) (.cons (.op (.cmp .eq) (.cons (.call c__law_take (.cons (.var 0) (.cons (.cst (.int 4)) .nil))) (.cons (.cst (.int 0)) .nil))) .nil)))
    (.cons (.set 4 (.op .neg (.cons (.cst (.int 1)) .nil)) (.op .idx (.cons (.var 4) (.cons (.cst (.int 0)) .nil))))
    .nil)
    .nil)
  (.cons (.ret (.op .tuple (.cons (.var 4) .nil)))
  .nil)))⟩
/-! ### values along an order -/
def lawVals (M : Meas) (js : List Job) : Int → List Nat → List Int
  | _, [] => []
  | s, i :: os => M.cost (jobAt js i) (s + (jobAt js i).p) :: lawVals M js (s + (jobAt js i).p) os
theorem lawVals_len (M : Meas) (js : List Job) : ∀ (s : Int) (os : List Nat), (lawVals M js s os).length = os.length
  | _, [] => rfl
  | s, i :: os => by rw [lawVals, List.length_cons, lawVals_len M js _ os, List.length_cons]
theorem endStep_out (js : List Job) : ∀ (os : List Nat) (a : List Int × Int) (i : Nat), i ∉ os → (os.foldl (endStep js) a).1.getD i 0 = a.1.getD i 0
  | [], _, _, _ => rfl
  | j :: os, a, i, h => by
    rw [List.foldl_cons, endStep_out js os _ i fun h2 => h (List.mem_cons_of_mem _ h2)]
    have hj : j ≠ i := fun e => h (e ▸ List.mem_cons_self ..)
    unfold endStep
    rw [List.getD_eq_getElem?_getD, List.getD_eq_getElem?_getD, List.getElem?_set_ne hj]
theorem lawVals_ends (M : Meas) (js : List Job) : ∀ (os : List Nat) (es : List Int) (s : Int), os.Nodup → (∀ i ∈ os, i < es.length) →
    lawVals M js s os = os.map fun i => M.cost (jobAt js i) ((os.foldl (endStep js) (es, s)).1.getD i 0)
  | [], _, _, _, _ => rfl
  | j :: os, es, s, hn, hl => by
    obtain ⟨h1, h2⟩ := List.nodup_cons.mp hn
    have hj := hl j (List.mem_cons_self ..)
    have e0 : (j :: os).foldl (endStep js) (es, s) = os.foldl (endStep js) (es.set j (s + (jobAt js j).p), s + (jobAt js j).p) := rfl
    rw [e0, List.map_cons, lawVals, endStep_out js os _ j h1]
    have e1 : (es.set j (s + (jobAt js j).p), s + (jobAt js j).p).1.getD j 0 = s + (jobAt js j).p := by
      rw [List.getD_eq_getElem?_getD, List.getElem?_set_self hj]
      rfl
    rw [e1, ← lawVals_ends M js os _ _ h2 fun i hi => by rw [List.length_set]; exact hl i (List.mem_cons_of_mem _ hi)]
theorem zipWith_range {α β γ : Type} (F : α → β → γ) (a : α) (b : β) : ∀ (xs : List α) (ys : List β), ys.length = xs.length → List.zipWith F xs ys = (List.range xs.length).map fun i => F (xs.getD i a) (ys.getD i b) := by
  intro xs ys h
  apply List.ext_getElem
  · rw [List.length_zipWith, List.length_map, List.length_range, h, Nat.min_self]
  · intro i h1 h2
    have hx : i < xs.length := by
      rw [List.length_map, List.length_range] at h2
      exact h2
    have hy : i < ys.length := by omega
    rw [List.getElem_zipWith, List.getElem_map, List.getElem_range, getD_at hx, getD_at hy]
theorem vals_perm (M : Meas) {js : List Job} (s : Int) {os : List Nat} (h : os.Perm (List.range js.length)) : (valuesOf M js s os).Perm (lawVals M js s os) := by
  have hn : os.Nodup := h.nodup_iff.mpr List.nodup_range
  have hm : ∀ i ∈ os, i < js.length := fun i hi => List.mem_range.mp (h.mem_iff.mp hi)
  rw [lawVals_ends M js os (List.replicate js.length 0) s hn (by simpa using hm)]
  unfold valuesOf
  rw [zipWith_range (fun j e => M.cost j e) ⟨0, 0, 0⟩ 0 _ _ (endsOf_len js s os)]
  exact (h.map _).symm
theorem sum_perm {xs ys : List Int} (h : xs.Perm ys) : xs.sum = ys.sum := by
  induction h with
  | nil => rfl
  | cons x _ ih => rw [List.sum_cons, List.sum_cons, ih]
  | swap x y l =>
    rw [List.sum_cons, List.sum_cons, List.sum_cons, List.sum_cons]
    omega
  | trans _ _ h1 h2 => exact h1.trans h2
theorem maxL_perm {xs ys : List Int} (h : xs.Perm ys) : maxL xs = maxL ys := by
  by_cases hx : xs = []
  · subst hx
    rw [h.nil_eq]
  · have hy : ys ≠ [] := fun e => hx (by
      subst e
      exact h.eq_nil)
    obtain ⟨h1, h2⟩ := maxL_spec xs hx
    obtain ⟨h3, h4⟩ := maxL_spec ys hy
    exact Int.le_antisymm (h4 _ (h.mem_iff.mp h1)) (h2 _ (h.mem_iff.mpr h3))
theorem joinD_perm (M : Meas) {xs ys : List Int} (h : xs.Perm ys) : joinD M xs = joinD M ys := by
  by_cases hm : ∃ cs, M = .terms true cs
  · obtain ⟨cs, rfl⟩ := hm
    cases xs with
    | nil => rw [h.nil_eq]
    | cons x xs =>
      cases ys with
      | nil => exact absurd h.eq_nil (by simp)
      | cons y ys =>
        show PyData.int (maxL (x :: xs)) = .int (maxL (y :: ys))
        rw [maxL_perm h]
  · rw [way_max (way_not hm), way_max (way_not hm), sum_perm h]
def S_law_value (T : List Fn) (f : Nat) : Prop := MuT T f = [false, false, false, false] ∧ ∀ (n : Nat) (M : Meas) (js : List Job) (s : Int) (os : List Nat), M.ok → os.length ≤ 1000 → (∀ j ∈ js, j.k < M.kinds) → (∀ i ∈ os, i < js.length) → Wc (run T (n + 2)) f [(false, measD M), (false, lotD js), (false, .int s), (false, ordD os)] fun r fin => r = (false, joinD M (lawVals M js s os)) ∧ fin = []
theorem lawVals_app (M : Meas) (js : List Job) : ∀ (a : List Nat) (x : Nat) (s : Int), lawVals M js s (a ++ [x]) = lawVals M js s a ++ [M.cost (jobAt js x) (s + (a.map fun i => (jobAt js i).p).sum + (jobAt js x).p)]
  | [], x, s => by
    rw [List.nil_append, lawVals, lawVals, lawVals, List.map_nil, List.sum_nil, Int.add_zero]
    rfl
  | y :: a, x, s => by
    rw [List.cons_append, lawVals, lawVals, lawVals_app M js a x, List.map_cons, List.sum_cons, List.cons_append]
    rw [Int.add_assoc s]
theorem jobD_eq (j : Job) : jobD j = .tuple [.int j.k, .int j.p, .int j.d] := rfl
theorem law_value_S {T : List Fn} {f c1 : Nat} (h : T[f]? = some (fn_law_value c1)) (hC : S_cost T c1) : S_law_value T f := by
  refine ⟨MuT_of h, fun n M js s os hM hl hk ho => ?_⟩
  refine Wc_of h rfl ?_
  unfold lotD ordD
  walk_at "mr"
  refine Wf_preF os (fun a ρ => ∃ o6, ρ = [some (false, measD M), some (false, .tuple (js.map jobD)), some (false, .int s), some (false, .tuple (os.map fun (i : Nat) => .int i)), some (false, .int (s + (a.map fun i => (jobAt js i).p).sum)), some (true, .list ((lawVals M js s a).map .int)), o6]) ⟨none, by simp [lawVals]⟩ ?_ ?_
  · rintro a x r _ e ⟨o6, rfl⟩
    have hx := ho x (by rw [e]; simp)
    have ha : a.length < os.length := by
      have := congrArg List.length e
      rw [List.length_append, List.length_cons] at this
      omega
    walk_at "mr"
    rw [atD_job hx, jobD_eq]
    walk_at "mr"
    rw [atD_job hx]
    walk_at "mr"
    refine call_ok hC.1 (hC.2 _ M (jobAt js x) _ hM (hk _ (by rw [jobAt_get hx]; exact List.getElem_mem hx))) rfl rfl ?_
    rintro _ _ ⟨rfl, rfl⟩
    walk_at "mr"
    refine ⟨szOk_of (by rw [lawVals_len]; omega), ?_⟩
    refine ⟨some (false, .int x), ?_⟩
    rw [lawVals_app, List.map_append, List.map_append, List.sum_append, List.map_cons, List.map_nil, List.map_cons, List.map_nil, List.sum_cons, List.sum_nil, Int.add_zero, Int.add_assoc]
  · rintro _ ⟨o6, rfl⟩
    have em : measD M = .tuple [.str M.way, .tuple M.costs] := rfl
    rw [em]
    walk_at "mr"
    by_cases hm : ∃ cs, M = .terms true cs
    · obtain ⟨cs, rfl⟩ := hm
      rw [max_way]
      walk_at "mr"
      generalize lawVals (.terms true cs) js s os = zs
      refine ⟨?_, ?_⟩
      · rw [okD_ints]
      · cases zs with
        | nil =>
          have e7 : (PyData.list ((List.nil : List Int).map PyData.int)).eqv (.list []) = true := rfl
          rw [e7]
          walk_at "mr"
          rfl
        | cons z zs =>
          have e7 : (PyData.list ((z :: zs).map PyData.int)).eqv (.list []) = false := rfl
          rw [e7]
          walk_at "mr"
          rw [show (PyData.int z :: zs.map PyData.int) = (z :: zs).map PyData.int from rfl, cmpOk_ints, kd_max_ints (by simp)]
          refine ⟨rfl, ?_⟩
          walk_at "mr"
          rfl
    · rw [way_max (way_not hm), way_not hm]
      walk_at "mr"
      rw [sumI_ints]
      walk_at "mr"
      try rfl
theorem inOrder_zip : ∀ zs : List Int, inOrder zs = (zs.zip (zs.drop 1)).all fun p => decide (p.1 ≤ p.2)
  | [] => rfl
  | [z] => by simp [inOrder]
  | a :: b :: zs => by
    have ih := inOrder_zip (b :: zs)
    rw [List.drop_succ_cons, List.drop_zero] at ih
    rw [List.drop_succ_cons, List.drop_zero, List.zip_cons_cons, List.all_cons, ← ih]
    unfold inOrder
    rw [Bool.eq_iff_iff]
    simp only [decide_eq_true_eq, Bool.and_eq_true]
    constructor
    · intro h
      exact ⟨List.rel_of_pairwise_cons h (List.mem_cons_self ..), (List.pairwise_cons.mp h).2⟩
    · rintro ⟨h1, h2⟩
      refine List.pairwise_cons.mpr ⟨fun x hx => ?_, h2⟩
      rcases List.mem_cons.mp hx with rfl | hx
      · exact h1
      · exact Int.le_trans h1 (List.rel_of_pairwise_cons h2 hx)
def S_law_is_allowed (T : List Fn) (f : Nat) : Prop := MuT T f = [false, false, false] ∧ ∀ (n : Nat) (rs : List (Int × Int)) (js : List Job) (os : List Nat), bigs rs → os.length ≤ 1000 → (∀ i ∈ os, i < js.length) → (∀ j ∈ js, j.k < rs.length ∧ big j.p ∧ big j.d) → Wc (run T (n + 2)) f [(false, pairsD rs), (false, lotD js), (false, ordD os)] fun r fin => r = (false, .bool (inOrder (os.map fun i => keyOf rs (jobAt js i)))) ∧ fin = []
theorem law_is_allowed_S {T : List Fn} {f c1 : Nat} (h : T[f]? = some (fn_law_is_allowed c1)) (hK : S_key T c1) : S_law_is_allowed T f := by
  refine ⟨MuT_of h, fun n rs js os hrs hl ho hj => ?_⟩
  refine Wc_of h rfl ?_
  unfold lotD ordD
  walk_at "mr"
  refine Wk_map1 (fun i => .int (keyOf rs (jobAt js i))) (by omega) (fun x hx o => ?_) ?_
  · have hxj := ho x hx
    have hjj := hj (jobAt js x) (by rw [jobAt_get hxj]; exact List.getElem_mem hxj)
    walk_at "mr"
    rw [atD_job hxj]
    walk_at "mr"
    refine call_ok hK.1 (hK.2 _ rs _ hrs hjj.2.1 hjj.2.2 hjj.1) rfl rfl ?_
    rintro _ _ ⟨rfl, rfl⟩
    walk_at "mr"
    walk_at "en"
  walk_at "mr"
  have e4 := sliced_from (xs := os.map fun i => PyData.int (keyOf rs (jobAt js i))) 1
  rw [show ((1 : Nat) : Int) = 1 from rfl] at e4
  rw [e4, inOrder_zip, ← List.map_drop, ← List.map_drop, zip_ty, List.zip_map, List.all_map]
  refine Wk_map2 (fun p => .bool (decide (keyOf rs (jobAt js p.1) ≤ keyOf rs (jobAt js p.2)))) (by rw [List.length_zip]; omega) (fun x hx o o2 => ?_) ?_
  · walk_at "mr"
    walk_at "en"
  walk_at "mr"
  rw [okDs_boolT, false_in]
  refine ⟨rfl, ?_⟩
  rw [Bool.not_not]
  rfl
/-! ### is this an order -/
def isOrd (n : Nat) (d : PyData) : Bool := match d with
  | .tuple xs => xs.all isI && (PyData.list (sortD xs)).eqv (.list (rngL 0 n))
  | _ => false
theorem allI_ints : ∀ xs : List PyData, xs.all isI = true → ∃ zs : List Int, xs = zs.map .int
  | [], _ => ⟨[], rfl⟩
  | x :: xs, h => by
    rw [List.all_cons, Bool.and_eq_true] at h
    obtain ⟨zs, rfl⟩ := allI_ints xs h.2
    cases x with
    | int i => exact ⟨i :: zs, rfl⟩
    | _ => exact absurd h.1 (by simp [isI])
def S_law_is_whole (T : List Fn) (f : Nat) : Prop := MuT T f = [false] ∧ ∀ (n : Nat) (d : PyData), Wc (run T (n + 1)) f [(false, d)] fun r fin => r = (false, .bool (isI d)) ∧ fin = []
theorem law_is_whole_S {T : List Fn} {f : Nat} (h : T[f]? = some fn_law_is_whole) : S_law_is_whole T f := by
  refine ⟨MuT_of h, fun n d => ?_⟩
  refine Wc_of h rfl ?_
  cases d with
  | int i =>
    walk_at "mq"
    rfl
  | bool b =>
    walk_at "mq"
    rfl
  | _ =>
    walk_at "mq"
    rfl
def S_is_order (T : List Fn) (f : Nat) : Prop := MuT T f = [false, false] ∧ ∀ (n : Nat) (js : List Job) (d : PyData), js.length ≤ 100000 → (∀ xs, d = .tuple xs → xs.length ≤ 100000) → Wc (run T (n + 2)) f [(false, lotD js), (false, d)] fun r fin => r = (false, .bool (isOrd js.length d)) ∧ fin = []
def S_law_is_order (T : List Fn) (f : Nat) : Prop := MuT T f = [false, false] ∧ ∀ (n m : Nat) (d : PyData), m ≤ 100000 → (∀ xs, d = .tuple xs → xs.length ≤ 100000) → Wc (run T (n + 2)) f [(false, .int m), (false, d)] fun r fin => r = (false, .bool (isOrd m d)) ∧ fin = []
theorem okD_rng (n : Nat) : okD (.list (rngL 0 n)) = true := by
  rw [rngL_ty]
  exact okD_natsL _
theorem is_order_S {T : List Fn} {f c1 : Nat} (h : T[f]? = some (fn_is_order c1)) (hF : S_is_integer T c1) : S_is_order T f := by
  refine ⟨MuT_of h, fun n js d hl hd => ?_⟩
  refine Wc_of h rfl ?_
  cases d with
  | tuple xs =>
    have hx := hd xs rfl
    unfold lotD
    walk_at "mr"
    refine Wk_as (List.map_id xs).symm ?_
    refine Wk_map1 (fun x => .bool (isI x)) (by omega) (fun x hx o => ?_) ?_
    · unfold id
      walk_at "mr"
      refine call_ok hF.1 (hF.2 _ x) rfl rfl ?_
      rintro _ _ ⟨rfl, rfl⟩
      walk_at "mr"
      walk_at "en"
    walk_at "mr"
    rw [boolish_ty, all_ty]
    refine ⟨rfl, ?_⟩
    cases ha : xs.all isI with
    | false =>
      walk_at "mr"
      rw [isOrd, ha]
      rfl
    | true =>
      walk_at "mr"
      rw [isOrd, ha]
      obtain ⟨zs, rfl⟩ := allI_ints xs ha
      obtain ⟨out, ho1, ho2⟩ := sortZ zs
      rw [sortOk_ints, okDs_ints, ho1, okD_ints, okD_rng]
      refine ⟨rfl, rngOk_of (by omega) (by omega) (by omega) (by omega) (by omega), rfl, ?_⟩
      rw [Bool.true_and]
  | _ =>
    walk_at "mq"
    rfl
theorem law_is_order_S {T : List Fn} {f c1 : Nat} (h : T[f]? = some (fn_law_is_order c1)) (hF : S_law_is_whole T c1) : S_law_is_order T f := by
  refine ⟨MuT_of h, fun n m d hl hd => ?_⟩
  refine Wc_of h rfl ?_
  cases d with
  | tuple xs =>
    have hx := hd xs rfl
    walk_at "mr"
    refine Wk_as (List.map_id xs).symm ?_
    refine Wk_map1 (fun x => .bool (isI x)) (by omega) (fun x hx o => ?_) ?_
    · unfold id
      walk_at "mr"
      refine call_ok hF.1 (hF.2 _ x) rfl rfl ?_
      rintro _ _ ⟨rfl, rfl⟩
      walk_at "mr"
      walk_at "en"
    walk_at "mr"
    rw [okDs_boolT, false_in]
    refine ⟨rfl, ?_⟩
    cases ha : xs.all isI with
    | false =>
      walk_at "mr"
      rw [isOrd, ha]
      rfl
    | true =>
      walk_at "mr"
      rw [isOrd, ha]
      obtain ⟨zs, rfl⟩ := allI_ints xs ha
      obtain ⟨out, ho1, ho2⟩ := sortZ zs
      rw [sortOk_ints, okDs_ints, ho1, okD_ints, okD_rng]
      refine ⟨rfl, rngOk_of (by omega) (by omega) (by omega) (by omega) (by omega), rfl, ?_⟩
      rw [Bool.true_and]
  | _ =>
    walk_at "mq"
    rfl
/-! ### odd things -/
theorem odd04_S {T : List Fn} {f c1 : Nat} (h : T[f]? = some (fn_odd04 c1)) (hO : S_one_of T c1) : S_odd T f := by
  refine ⟨MuT_of h, fun n k p hp hk => ?_⟩
  refine Wc_of h rfl ?_
  walk_at "mq"
  walk_at "oo"
  rename_i d p hd hp
  refine ⟨d, p, rfl, rfl, ?_, hp⟩
  have t1 : ∀ x : PyData, bnd 1000000000000000000000 x = true → sz x ≤ 2 → Bd 1000000000000000000000 4 (.tuple [x]) := fun x h1 h2 => Bd_tuple (by simpa using h1) (by rw [szAll, szAll]; omega)
  have a : bnd 1000000000000000000000 (.int 0) = true ∧ sz (.int 0) ≤ 1 := ⟨by rw [bnd]; exact decide_eq_true (by omega), by rw [sz]; omega⟩
  have nb : ∀ i : Int, -1000000000000000000000 < i → i < 1000000000000000000000 → Bd 1000000000000000000000 4 (.int i) := fun i h1 h2 => (Bd_int (b := 1000000000000000000000) h1 h2).mono (by omega) (by omega)
  simp only [List.mem_cons, List.not_mem_nil, or_false, List.mem_append] at hd
  rcases hd with rfl | rfl | rfl | rfl | rfl | rfl | rfl | rfl | rfl | rfl | rfl | rfl | rfl | rfl | rfl | rfl | rfl
  · exact Bd_none.mono (Int.le_refl _) (by omega)
  · exact Bd_bool.mono (Int.le_refl _) (by omega)
  · exact Bd_bool.mono (Int.le_refl _) (by omega)
  · exact nb _ (by decide) (by decide)
  · exact nb _ (by decide) (by decide)
  · exact nb _ (by decide) (by decide)
  · exact (Bd_str (b := 1000000000000000000000) (by decide)).mono (by omega) (by omega)
  · exact (Bd_str (b := 1000000000000000000000) (by decide)).mono (by omega) (by omega)
  · exact Bd_tuple (by simp) (by rw [szAll]; omega)
  · exact Bd_list (by simp) (by rw [szAll]; omega)
  · exact Bd_emp.mono (Int.le_refl _) (by omega)
  · exact t1 _ a.1 (by omega)
  · exact Bd_tuple (by simpa using a.1) (by rw [szAll, szAll, szAll]; omega)
  · exact Bd_list (by simp [bnd, bndAll]) (by rw [szAll, szAll, sz, szAll]; omega)
  · exact t1 _ (by simp [bnd, bndAll]) (by rw [sz, szAll]; omega)
  · exact nb _ (by decide) (by decide)
  · exact nb _ (by decide) (by decide)
def S_bent04 (T : List Fn) (f : Nat) : Prop := MuT T f = [true, false] ∧ ∀ (n : Nat) (k : Int) (p : PyData) (os : List Nat), Pen k p → k < 800000 → os.length ≤ 1000 → (∀ i ∈ os, i < 1000000) → Wc (run T (n + 6)) f [(true, p), (false, ordD os)] fun r fin => ∃ (o : Bool) (d' : PyData) (p' : PyData), r = (o, d') ∧ fin = [p'] ∧ Bd 1000000000000000000000 (2 * os.length + 10) d' ∧ Pen (k + 10) p'
theorem bent04_int {T : List Fn} {f c1 c2 c3 : Nat} (h : T[f]? = some (fn_bent04 c1 c2 c3 f)) (hT : S_take T c1) (hO : S_one_of T c2) (hD : S_odd T c3) (n : Nat) (k : Int) (p : PyData) (i : Int) (hp : Pen k p) (hk : k < 850000) (h1 : -1000000 < i) (h2 : i < 1000000) : Wc (run T (n + 5)) f [(true, p), (false, .int i)] fun r fin => ∃ (o : Bool) (d' : PyData) (p' : PyData), r = (o, d') ∧ fin = [p'] ∧ Bd 1000000000000000000000 4 d' ∧ Pen (k + 5) p' := by
  refine Wc_of h rfl ?_
  have near : ∀ j : Int, -1000000000000 < j → j < 1000000000000 → Bd 1000000000000000000000 4 (.int j) := fun j h3 h4 => (Bd_int (b := 1000000000000000000000) (by omega) (by omega)).mono (Int.le_refl _) (by omega)
  walk_at "mr"
  walk_at "tk"
  rename_i z p hz0 hz1 hp
  refine kite_d (fun h3 => ?_) (fun h3 => ?_)
  · walk_at "mr"
    refine kite_d (fun h4 => ?_) (fun h4 => ?_)
    · walk_at "mr"
      refine kite_d (fun h5 => ?_) (fun h5 => ?_)
      all_goals
        walk_at "mr"
        walk_at "oo"
        rename_i d p hd hp
        refine ⟨_, _, _, rfl, rfl, ?_, hp.mono (by omega)⟩
        simp only [List.mem_cons, List.not_mem_nil, or_false] at hd
        rcases hd with rfl | rfl | rfl | rfl
        · exact near _ (by omega) (by omega)
        · exact near _ (by omega) (by omega)
        · first
            | exact Bd_bool.mono (Int.le_refl _) (by omega)
            | exact near _ (by omega) (by omega)
        · exact near _ (by omega) (by omega)
    · walk_at "mr"
      walk_at "oo"
      rename_i d p hd hp
      refine ⟨_, _, _, rfl, rfl, ?_, hp.mono (by omega)⟩
      simp only [List.mem_cons, List.not_mem_nil, or_false] at hd
      rcases hd with rfl | rfl | rfl | rfl
      · exact near _ (by omega) (by omega)
      · exact near _ (by omega) (by omega)
      · exact near _ (by omega) (by omega)
      · exact near _ (by omega) (by omega)
  · walk_at "mr"
    refine call_ok hD.1 (hD.2 _ _ p hp (by omega)) rfl rfl ?_
    rintro _ _ ⟨d, p', rfl, rfl, h5, h6⟩
    walk_at "mr"
    exact ⟨_, _, _, rfl, rfl, h5, h6.mono (by omega)⟩
theorem bent04_S {T : List Fn} {f c1 c2 c3 : Nat} (h : T[f]? = some (fn_bent04 c1 c2 c3 f)) (hT : S_take T c1) (hO : S_one_of T c2) (hD : S_odd T c3) : S_bent04 T f := by
  refine ⟨MuT_of h, fun n k p os hp hk hl ho => ?_⟩
  refine Wc_of h rfl ?_
  have odd : ∀ (k2 : Int) (p2 : PyData), Pen k2 p2 → k2 ≤ k + 3 → Wc (run T (n + 5)) c3 [(true, p2)] fun r fin => ∃ (o : Bool) (d' : PyData) (p' : PyData), r = (o, d') ∧ fin = [p'] ∧ Bd 1000000000000000000000 (2 * os.length + 10) d' ∧ Pen (k + 10) p' := fun k2 p2 hp2 h2 => by
    refine (hD.2 (n + 1) k2 p2 hp2 (by omega)).mono ?_
    rintro r fin ⟨d', p', rfl, rfl, h3, h4⟩
    exact ⟨false, d', p', rfl, rfl, h3.mono (by omega) (by omega), h4.mono (by omega)⟩
  have lo : (os.map natD).length = os.length := List.length_map ..
  have so : szAll (os.map natD) = os.length := szAll_nats os
  have bo : ∀ x ∈ os.map natD, bnd 1000000000000000000000 x = true := fun x hx => by
    obtain ⟨i, hi, rfl⟩ := List.mem_map.mp hx
    have := ho i hi
    rw [bnd]
    exact decide_eq_true (by omega)
  have eo : ordD os = .tuple (os.map natD) := rfl
  rw [eo]
  walk_at "mr"
  refine kite_d (fun h3 => ?_) (fun h3 => ?_)
  · walk_at "mr"
    refine call_ok hD.1 (odd k p hp (by omega)) rfl rfl ?_
    rintro _ _ ⟨o, d', p', rfl, rfl, h3, h4⟩
    cases o
    all_goals
      walk_at "mr"
      exact ⟨_, _, _, rfl, rfl, h3, h4⟩
  · walk_at "mr"
    walk_at "tk"
    rename_i z p hz0 hz1 hp
    refine kite_d (fun h4 => ?_) (fun h4 => ?_)
    · walk_at "mr"
      refine call_ok hD.1 (odd _ p hp (by omega)) rfl rfl ?_
      rintro _ _ ⟨o, d', p', rfl, rfl, h3, h4⟩
      cases o
      all_goals
        walk_at "mr"
        exact ⟨_, _, _, rfl, rfl, h3, h4⟩
    · walk_at "mr"
      walk_at "tk"
      walk_at "tk"
      rename_i w _ hw0 hw1 _ j p hj0 hj1 hp
      obtain ⟨j, rfl⟩ := Int.eq_ofNat_of_zero_le hj0
      have hj : j < os.length := by omega
      generalize hxs : os.map natD = xs at lo so bo
      have ax : atD xs (j : Int) = some (.int (os[j] : Nat)) := by rw [← hxs, atD_ty natD hj]
      refine kite_cut (fun ρ => ∃ (o : Bool) (ys : List PyData) (q : PyData), ρ = [some (true, q), some (false, .tuple xs), some (o, .list ys), some (false, .int w), some (false, .int j)] ∧ (∀ y ∈ ys, bnd 1000000000000000000000 y = true) ∧ 1 + szAll ys ≤ 2 * os.length + 10 ∧ Pen (k + 9) q) ?_ ?_
      · refine kite_d (fun h4 => ?_) (fun h4 => ?_)
        · walk_at "mr"
          rw [ax]
          walk_at "mr"
          refine call_ok (MuT_of h) (bent04_int h hT hO hD n _ p (os[j] : Nat) hp (by omega) (by omega) (by have := ho _ (List.getElem_mem hj); omega)) rfl rfl ?_
          rintro _ _ ⟨o, d', p', rfl, rfl, h5, h6⟩
          cases o
          all_goals
            walk_at "mr"
            rw [ixN_nat (by omega) (by omega), Int.toNat_natCast]
            walk_at "mr"
            refine ⟨_, _, _, rfl, fun y hy => ?_, ?_, h6.mono (by omega)⟩
            · rcases List.mem_or_eq_of_mem_set hy with hy | rfl
              · exact bo y hy
              · exact h5.1
            · have e1 := szAll_set_eq (d := d') (show j < xs.length by omega)
              have := h5.2
              omega
        · walk_at "mr"
          have e1 := sliced_to (xs := xs) j
          have e2 := sliced_from (xs := xs) (j + 1)
          have e3 := sliced_mid (xs := xs) j (j + 1)
          have e4 : ((j + 1 : Nat) : Int) = (j : Int) + 1 := rfl
          rw [e4] at e2 e3
          rw [e1, e2, e3, show j + 1 - j = 1 by omega]
          have l1 : (xs.take j ++ xs.drop (j + 1)).length ≤ 20000 := by simp; omega
          have l2 : (xs ++ (xs.drop j).take 1).length ≤ 20001 := by simp; omega
          have s2 : szAll (xs ++ (xs.drop j).take 1) ≤ szAll xs + szAll xs := by
            rw [szAll_append]
            have := szAll_take 1 (xs.drop j)
            have := szAll_drop j xs
            omega
          have s3 := szAll_reverse xs
          have s1 : szAll (xs.take j ++ xs.drop (j + 1)) ≤ szAll xs + szAll xs := by
            rw [szAll_append]
            have := szAll_take j xs
            have := szAll_drop (j + 1) xs
            omega
          have b1 : ∀ y ∈ xs.take j ++ xs.drop (j + 1), bnd 1000000000000000000000 y = true := fun y hy => by
            rcases List.mem_append.mp hy with hy | hy
            · exact bo y (List.mem_of_mem_take hy)
            · exact bo y (List.mem_of_mem_drop hy)
          have b2 : ∀ y ∈ xs ++ (xs.drop j).take 1, bnd 1000000000000000000000 y = true := fun y hy => by
            rcases List.mem_append.mp hy with hy | hy
            · exact bo y hy
            · exact bo y (List.mem_of_mem_drop (List.mem_of_mem_take hy))
          have b3 : ∀ y ∈ xs.reverse, bnd 1000000000000000000000 y = true := fun y hy => bo y (List.mem_reverse.mp hy)
          have hw : w = 7 ∨ w = 8 ∨ w = 9 := by omega
          refine ⟨szOk_of (by rw [List.length_append] at l1; exact Nat.le_trans l1 (by omega)), szOk_of (by rw [List.length_append] at l2; exact Nat.le_trans l2 (by omega)), ?_⟩
          walk_at "mr"
          rcases hw with rfl | rfl | rfl
          · rw [show (7 : Int) - 7 = 0 from rfl, atD_0]
            walk_at "mr"
            exact ⟨_, _, _, rfl, b1, by omega, hp.mono (by omega)⟩
          · rw [show (8 : Int) - 7 = 1 from rfl, atD_1]
            walk_at "mr"
            exact ⟨_, _, _, rfl, b2, by omega, hp.mono (by omega)⟩
          · rw [show (9 : Int) - 7 = 2 from rfl, atD_2]
            walk_at "mr"
            exact ⟨_, _, _, rfl, b3, by omega, hp.mono (by omega)⟩
      · rintro _ ⟨o, ys, q, rfl, hy1, hy2, hq⟩
        cases o
        all_goals
          walk_at "mr"
          walk_at "tk"
          rename_i z2 p3 _ _ hp3
          obtain hb2 | hb2 := Bool.eq_false_or_eq_true (decide (0 < z2))
          all_goals
            rw [hb2]
            walk_at "mr"
            first
              | exact ⟨_, _, _, rfl, rfl, Bd_tuple hy1 hy2, hp3.mono (by omega)⟩
              | exact ⟨_, _, _, rfl, rfl, Bd_list hy1 hy2, hp3.mono (by omega)⟩
/-! ### draws -/
def S_draw_start (T : List Fn) (f : Nat) : Prop := MuT T f = [true] ∧ ∀ (n : Nat) (k : Int) (p : PyData), Pen k p → k < 900000 → Wc (run T (n + 4)) f [(true, p)] fun r fin => ∃ (z : Int) (p' : PyData), r = (false, .int z) ∧ fin = [p'] ∧ 0 ≤ z ∧ z < 100000000000000000010 ∧ Pen (k + 4) p'
theorem draw_start_S {T : List Fn} {f c1 c2 : Nat} (h : T[f]? = some (fn_draw_start c1 c2)) (hO : S_one_of T c1) (hT : S_take T c2) : S_draw_start T f := by
  refine ⟨MuT_of h, fun n k p hp hk => ?_⟩
  refine Wc_of h rfl ?_
  walk_at "mr"
  walk_at "tk"
  walk_at "tk"
  walk_at "tk"
  rename_i a _ ha0 ha1 _ b _ hb0 hb1 _ c p hc0 hc1 hp
  walk_at "oo"
  rename_i d p hd hp
  simp only [List.mem_cons, List.not_mem_nil, or_false] at hd
  rcases hd with rfl | rfl | rfl | rfl | rfl | rfl <;> exact ⟨_, _, rfl, rfl, by omega, by omega, hp.mono (by omega)⟩
def S_drawn_order (T : List Fn) (f : Nat) : Prop := MuT T f = [true, false] ∧ ∀ (n : Nat) (k : Int) (p : PyData) (m : Nat), Pen k p → k < 800000 → m ≤ 1000 → Wc (run T (n + 3)) f [(true, p), (false, .int m)] fun r fin => ∃ (os : List Nat) (p' : PyData), r = (false, ordD os) ∧ fin = [p'] ∧ os.Perm (List.range m) ∧ Pen (k + m) p'
theorem mtS_pop {xs : List PyData} {i : Int} {k : PyData × PyData → Prop} : kd (mtS .pop (.list xs) [.int i]) k ↔ kd (L2.ixN xs.length i) fun j => kd (xs[j]?) fun x => k (x, .list (xs.eraseIdx j)) := by
  show kd ((L2.ixN xs.length i).bind fun k => (xs[k]?).map fun x => (x, .list (xs.eraseIdx k))) k ↔ _
  rw [kd_bind]
  simp only [kd_map]
theorem erase_perm {α : Type} : ∀ (xs : List α) (j : Nat) (h : j < xs.length), (xs[j] :: xs.eraseIdx j).Perm xs
  | x :: xs, 0, _ => List.Perm.refl _
  | x :: xs, j + 1, h => by
    rw [List.getElem_cons_succ, List.eraseIdx_cons_succ]
    exact (List.Perm.swap ..).trans ((erase_perm xs j (by simpa using h)).cons x)
theorem map_eraseIdx' {α β : Type} (g : α → β) : ∀ (xs : List α) (j : Nat), (xs.map g).eraseIdx j = (xs.eraseIdx j).map g
  | [], _ => rfl
  | x :: xs, 0 => rfl
  | x :: xs, j + 1 => by
    rw [List.map_cons, List.eraseIdx_cons_succ, List.eraseIdx_cons_succ, List.map_cons, map_eraseIdx' g xs j]
theorem drawn_order_S {T : List Fn} {f c1 : Nat} (h : T[f]? = some (fn_drawn_order c1)) (hT : S_take T c1) : S_drawn_order T f := by
  refine ⟨MuT_of h, fun n k p m hp hk hm => ?_⟩
  refine Wc_of h rfl ?_
  walk_at "mr"
  rw [rngL_ty]
  refine Ww_meas (fun j ρ => ∃ (ls os : List Nat) (q : PyData), ρ = [some (true, q), some (false, .int m), some (true, .list (ls.map natD)), some (true, .list (os.map natD))] ∧ ls.length = j ∧ (os ++ ls).Perm (List.range m) ∧ Pen (k + os.length) q) ?_ m _ ⟨List.range m, [], p, rfl, List.length_range, List.Perm.refl _, hp.mono (by simp)⟩
  rintro j _ ⟨ls, os, q, rfl, hl, hpm, hq⟩
  have hlen : os.length + ls.length = m := by
    have := hpm.length_eq
    rw [List.length_append, List.length_range] at this
    exact this
  by_cases h0 : ls = []
  · subst h0
    walk_at "mr"
    have e7 : (PyData.list []).eqv (.list []) = true := rfl
    rw [e7]
    walk_at "mr"
    rw [List.append_nil] at hpm
    have e8 : os.length = m := by simpa using hlen
    exact ⟨os, q, rfl, rfl, hpm, by rw [← e8]; exact hq⟩
  · have hk0 : 0 < ls.length := List.length_pos_iff.mpr h0
    walk_at "mr"
    refine ⟨okD_natsL ls, ?_⟩
    have e7 : (PyData.list (ls.map natD)).eqv (.list []) = false := by
      cases ls with
      | nil => exact absurd rfl h0
      | cons l ls => rfl
    rw [e7]
    walk_at "mr"
    walk_at "tk"
    rename_i z q hz0 hz1 hq
    obtain ⟨z, rfl⟩ := Int.eq_ofNat_of_zero_le hz0
    have hz : z < ls.length := by omega
    rw [mtS_pop, List.length_map, ixN_nat (by omega) (by omega), Int.toNat_natCast]
    walk_at "mr"
    rw [List.getElem?_map, List.getElem?_eq_getElem hz, map_eraseIdx']
    walk_at "mr"
    refine ⟨ls.length - 1, by omega, ls.eraseIdx z, os ++ [ls[z]], q, ?_, ?_, ?_, ?_⟩
    · rw [List.map_append]
      rfl
    · rw [List.length_eraseIdx_of_lt hz]
    · rw [List.append_assoc]
      exact ((erase_perm ls z hz).append_left os).trans hpm
    · exact hq.mono (by rw [List.length_append, List.length_singleton]; omega)
def lotOk04 (m : Int) (js : List Job) : Prop := ∀ j ∈ js, j.ok m ∧ j.p ≤ 100000000000000000000 ∧ j.d ≤ 200000000000000000000
def S_draw_lot04 (T : List Fn) (f : Nat) : Prop := MuT T f = [true, false, false, false] ∧ ∀ (n : Nat) (k : Int) (p : PyData) (m hi : Int) (s : Nat), Pen k p → k < 700000 → 1 ≤ m → m ≤ 3 → s ≤ 1000 → 1 ≤ hi → hi ≤ 1000000 → Wc (run T (n + 4)) f [(true, p), (false, .int m), (false, .int s), (false, .int hi)] fun r fin => ∃ (js : List Job) (p' : PyData), r = (false, lotD js) ∧ fin = [p'] ∧ js.length ≤ s ∧ lotOk04 m js ∧ Pen (k + 4 * s + 2) p'
theorem draw_lot04_S {T : List Fn} {f c1 c2 : Nat} (h : T[f]? = some (fn_draw_lot04 c1 c2)) (hJ : S_draw_job T c1) (hT : S_take T c2) : S_draw_lot04 T f := by
  refine ⟨MuT_of h, fun n k p m hi s hp hk hm1 hm2 hs hh1 hh2 => ?_⟩
  refine Wc_of h rfl ?_
  walk_at "mr"
  walk_at "tk"
  rename_i w p hw0 hw1 hp
  obtain ⟨w, rfl⟩ := Int.eq_ofNat_of_zero_le hw0
  rw [rngL_ty]
  refine Wk_st (β := Job) jobD (fun b js ρ => ∃ (q : PyData) (o : Option (Bool × PyData)), ρ = [some (true, q), some (false, .int m), some (false, .int s), some (false, .int hi), none, o] ∧ lotOk04 m js ∧ Pen (k + 1 + 4 * b.length) q) ⟨p, none, rfl, (fun j hj => by cases hj), hp.mono (by simp)⟩ (by rw [List.length_range]; omega) ?_ ?_
  · rintro b x r js _ e hbl ⟨q, o, rfl, hj, hq⟩
    have hb : b.length < w := by
      have := congrArg List.length e
      rw [List.length_range, List.length_append, List.length_cons] at this
      omega
    walk_at "mr"
    refine call_ok hJ.1 (hJ.2 _ _ q m hi hq (by omega) hm1 hm2 hh1 hh2) rfl rfl ?_
    rintro _ _ ⟨j, q', rfl, rfl, h1, h2, h3, hq⟩
    walk_at "mr"
    refine ⟨j, rfl, q', _, rfl, fun i hi => ?_, hq.mono (by rw [List.length_append, List.length_singleton]; omega)⟩
    rcases List.mem_append.mp hi with hi | hi
    · exact hj i hi
    · rw [List.mem_singleton.mp hi]
      exact ⟨h1, h2, h3⟩
  · rintro js _ hjl ⟨q, o, rfl, hj, hq⟩
    rw [List.length_range] at hjl hq
    have hjl2 : (js.map jobD).length = js.length := List.length_map ..
    walk_at "mr"
    refine kite_d (fun h2 => ?_) (fun h2 => ?_)
    · walk_at "mr"
      walk_at "tk"
      rename_i z q hz0 hz1 hq
      refine kite_d (fun h3 => ?_) (fun h3 => ?_)
      · walk_at "mr"
        have e0 := atD_job (js := js) (i := 0) (by omega)
        rw [show ((0 : Nat) : Int) = 0 from rfl] at e0
        rw [e0]
        walk_at "mr"
        rw [ixN_neg (by omega) (by omega)]
        walk_at "mr"
        rw [← List.map_set]
        refine ⟨_, q, rfl, rfl, by rw [List.length_set]; omega, fun i hi => ?_, hq.mono (by omega)⟩
        rcases List.mem_or_eq_of_mem_set hi with hi | rfl
        · exact hj i hi
        · rw [jobAt_get (by omega)]
          exact hj _ (List.getElem_mem _)
      · walk_at "mr"
        exact ⟨js, q, rfl, rfl, by omega, hj, hq.mono (by omega)⟩
    · walk_at "mr"
      exact ⟨js, q, rfl, rfl, by omega, hj, hq.mono (by omega)⟩
/-! ### sorted by a key -/
def ordLe (F : Nat → Int) (a b : Nat) : Bool := decide (F a < F b ∨ (F a = F b ∧ a ≤ b))
def ordBy (F : Nat → Int) (n : Nat) : List Nat := (List.range n).mergeSort (ordLe F)
theorem ordBy_perm (F : Nat → Int) (n : Nat) : (ordBy F n).Perm (List.range n) := List.mergeSort_perm _ _
theorem ordBy_sorted (F : Nat → Int) (n : Nat) : (ordBy F n).Pairwise fun a b => ordLe F a b = true := by
  refine List.pairwise_mergeSort (fun a b c h1 h2 => ?_) (fun a b => ?_) _
  · unfold ordLe at *
    have h1 := of_decide_eq_true h1
    have h2 := of_decide_eq_true h2
    refine decide_eq_true ?_
    omega
  · unfold ordLe
    rw [Bool.or_eq_true]
    by_cases h : F a < F b ∨ (F a = F b ∧ a ≤ b)
    · exact .inl (decide_eq_true h)
    · exact .inr (decide_eq_true (by omega))
theorem ordBy_len (F : Nat → Int) (n : Nat) : (ordBy F n).length = n := by rw [(ordBy_perm F n).length_eq, List.length_range]
theorem pair_le' {a b c d : Int} (h : a < c ∨ (a = c ∧ b ≤ d)) : ([a, b] : List Int) ≤ [c, d] := by
  rcases h with h | ⟨rfl, h⟩
  · exact Std.le_of_lt (List.Lex.rel h)
  · rw [List.cons_le_cons_iff]
    refine .inr ⟨rfl, ?_⟩
    rw [List.cons_le_cons_iff]
    by_cases hbd : b = d
    · exact .inr ⟨hbd, List.le_refl _⟩
    · exact .inl (by omega)
theorem ordBy_sort (F : Nat → Int) (n : Nat) : sortD (((List.range n).map fun (i : Nat) => [F i, (i : Int)]).map caseD) = ((ordBy F n).map fun (i : Nat) => [F i, (i : Int)]).map caseD := by
  refine sortI_eq ((ordBy_perm F n).map _) ?_
  rw [List.pairwise_map]
  refine (ordBy_sorted F n).imp fun {a b} h => pair_le' ?_
  have := of_decide_eq_true h
  omega
theorem ordBy_rows (F : Nat → Int) (js : List Job) : (js.zipIdx.map fun p => PyData.tuple [.int (F p.2), .int (p.2 : Nat)]) = ((List.range js.length).map fun (i : Nat) => [F i, (i : Int)]).map caseD := by
  rw [zipIdx_range, List.map_map]
  rfl
theorem ordBy_sortOk (F : Nat → Int) (n : Nat) : sortOk (((List.range n).map fun (i : Nat) => [F i, (i : Int)]).map caseD) = true := sortOk_cases (n := 1) (by intro r hr; obtain ⟨i, _, rfl⟩ := List.mem_map.mp hr; rfl)
/-- what are drawn are printed -/
theorem Rp.job {m : Int} {j : Job} (h : j.ok m ∧ j.p ≤ 100000000000000000000 ∧ j.d ≤ 200000000000000000000) (hm : m ≤ 3) : Rp 606 1 (jobD j) := Rp.tuple (n := 3) (w := 201) (dp := 0) (by
  obtain ⟨⟨h1, h2, h3⟩, h4, h5⟩ := h
  intro x hx
  simp only [List.mem_cons, List.not_mem_nil, or_false] at hx
  rcases hx with rfl | rfl | rfl
  · exact Rp.int ⟨by omega, by omega⟩
  · exact Rp.int ⟨by omega, by omega⟩
  · exact Rp.int ⟨by omega, by omega⟩) (by simp)
theorem Rp.lot {m : Int} {n : Nat} {js : List Job} (h : lotOk04 m js) (hm : m ≤ 3) (hl : js.length ≤ n) : Rp (n * 607) 2 (lotD js) := Rp.tuple (n := n) (w := 606) (dp := 1) (by
  intro x hx
  obtain ⟨j, hj, rfl⟩ := List.mem_map.mp hx
  exact Rp.job (h j hj) hm) (by rw [List.length_map]; exact hl)
theorem sm_ints (zs : List Int) (h : zs.length ≤ 100000) : Sm 1 (.tuple (zs.map .int)) := ⟨by rw [List.length_map]; omega, fun x hx => by
  obtain ⟨i, _, rfl⟩ := List.mem_map.mp hx
  exact trivial⟩
theorem sm_join (M : Meas) (zs : List Int) : Sm 0 (joinD M zs) := by
  by_cases hm : ∃ cs, M = .terms true cs
  · obtain ⟨cs, rfl⟩ := hm
    cases zs with
    | nil => exact trivial
    | cons z zs => exact trivial
  · rw [way_max (way_not hm)]
    exact trivial
theorem same_bool' {T : List Fn} {f : Nat} (h : S_same T f) (n : Nat) (b : Bool) : Wc (run T (n + 1)) f [(false, .bool b), (false, .bool b)] fun r fin => r = (false, .bool true) ∧ fin = [] := h.2 n 0 (.bool b) trivial
theorem Bd_ord' {b : Int} {os : List Nat} {N : Nat} (hb : 1000000 ≤ b) (h : os.length ≤ N) (ho : ∀ k ∈ os, k < 1000000) : Bd b (N + 1) (ordD os) := Bd_tuple (fun x hx => by
  obtain ⟨i, hi, rfl⟩ := List.mem_map.mp hx
  have := ho i hi
  rw [bnd]
  exact decide_eq_true (by omega)) (by rw [szAll_nats]; omega)

/-! ### how deep a datum is -/
mutual
def dp : PyData → Nat
  | .list xs => 1 + dpAll xs
  | .tuple xs => 1 + dpAll xs
  | _ => 1
def dpAll : List PyData → Nat
  | [] => 0
  | x :: xs => max (dp x) (dpAll xs)
end
theorem dpAll_le {e : Nat} : ∀ {xs : List PyData}, dpAll xs ≤ e ↔ ∀ x ∈ xs, dp x ≤ e
  | [] => by simp [dpAll]
  | x :: xs => by
    rw [dpAll, Nat.max_le, dpAll_le]
    simp
mutual
theorem dp_sz : ∀ d : PyData, dp d ≤ sz d
  | .none => by rw [dp, sz] <;> simp
  | .bool _ => by rw [dp, sz] <;> simp
  | .int _ => by rw [dp, sz] <;> simp
  | .str _ => by rw [dp, sz] <;> simp
  | .dict _ => by rw [dp, sz] <;> simp
  | .list xs => by rw [dp, sz]; have := dpAll_sz xs; omega
  | .tuple xs => by rw [dp, sz]; have := dpAll_sz xs; omega
theorem dpAll_sz : ∀ xs : List PyData, dpAll xs ≤ szAll xs
  | [] => by rw [dpAll, szAll]; omega
  | x :: xs => by
    rw [dpAll, szAll]
    have := dp_sz x
    have := dpAll_sz xs
    omega
end
mutual
theorem depth_dp {b : Int} : ∀ {d : PyData}, bnd b d = true → d.depth ≤ dp d
  | .none, _ => by rw [PyData.depth, dp] <;> simp
  | .bool _, _ => by rw [PyData.depth, dp] <;> simp
  | .int _, _ => by rw [PyData.depth, dp] <;> simp
  | .str _, _ => by rw [PyData.depth, dp] <;> simp
  | .list xs, h => by
    rw [bnd] at h
    rw [PyData.depth, dp]
    have := depthAll_dp h
    omega
  | .tuple xs, h => by
    rw [bnd] at h
    rw [PyData.depth, dp]
    have := depthAll_dp h
    omega
  | .dict kvs, h => by
    rw [bnd] at h
    have : kvs = [] := List.isEmpty_iff.mp h
    subst this
    rw [PyData.depth, PyData.depthKv, dp] <;> simp
theorem depthAll_dp {b : Int} : ∀ {xs : List PyData}, bndAll b xs = true → PyData.depthAll xs ≤ dpAll xs
  | [], _ => by rw [PyData.depthAll]; omega
  | x :: xs, h => by
    rw [bndAll, Bool.and_eq_true] at h
    have h1 := depth_dp h.1
    have h2 := depthAll_dp h.2
    rw [PyData.depthAll, dpAll]
    omega
end
theorem Bd.okD {b : Int} {n : Nat} {d : PyData} (h : Bd b n d) (hb : b ≤ 100000000000000000000000000000000000000000000000000) (hn : n ≤ 500) (hd : dp d ≤ 60) : (d.showable && (decide (d.depth ≤ 100) && szOk d.shown.length)) = true := by
  have r := bnd_rp hb h.1
  have r2 : Rp (400 * sz d) (dp d) d := ⟨r.1, r.2.1, r.2.2.1, depth_dp h.1⟩
  exact r2.ok (by have := h.2; omega) (by omega)
theorem b2i_t : b2i true = 1 := rfl
theorem b2i_f : b2i false = 0 := rfl
theorem cmp_leB {i : Int} {v : Bool} : cmp .le (.int i) (.bool v) = some (decide (i ≤ b2i v)) := rfl
theorem Wo_addB {v : Bool} {j : Int} {Q : Bool × PyData → Prop} : Wo (.bin .add) [.bool v, .int j] Q ↔ Q (false, .int (b2i v + j)) := kd_some
theorem Wo_subB {v : Bool} {j : Int} {Q : Bool × PyData → Prop} : Wo (.bin .sub) [.bool v, .int j] Q ↔ Q (false, .int (b2i v - j)) := kd_some
theorem Wo_mulB {v : Bool} {j : Int} {Q : Bool × PyData → Prop} : Wo (.bin .mul) [.bool v, .int j] Q ↔ Q (false, .int (b2i v * j)) := kd_some
theorem Wo_eqBI {v : Bool} {Q : Bool × PyData → Prop} : Wo (.cmp .eq) [.bool v, .int 1] Q ↔ Q (false, .bool v) := by
  cases v
  · exact kd_some
  · exact kd_some
theorem cmp_ltB {v : Bool} {j : Int} : cmp .lt (.bool v) (.int j) = some (decide (b2i v < j)) := rfl
def S_bentB (T : List Fn) (f : Nat) : Prop := MuT T f = [true, false] ∧ ∀ (e m n : Nat) (k : Int) (p : PyData) (b : Int) (d : PyData), Pen k p → k + 6 * e < 800000 → 1000000000000000000000 ≤ b → b ≤ 10000000000000000000000000000000000000000 → m ≤ 10000 → Bd b m d → dp d ≤ e → Wc (run T (n + e + 5)) f [(true, p), (false, d)] fun r fin => ∃ (o : Bool) (d' : PyData) (p' : PyData), r = (o, d') ∧ fin = [p'] ∧ (Bd (b * 1000 + 10) (2 * m + 4) d' ∧ dp d' ≤ e + 4) ∧ Pen (k + 6 * e) p'
theorem bentB_S {T : List Fn} {f c1 c2 c3 : Nat} (h : T[f]? = some (fn_bent04 c1 c2 c3 f)) (hT : S_take T c1) (hO : S_one_of T c2) (hD : S_odd T c3) : S_bentB T f := by
  refine ⟨MuT_of h, fun e => ?_⟩
  induction e using Nat.strongRecOn with
  | ind e ih =>
    intro m n k p b d hp hk hb hb2 hm hd he
    have hm1 : 1 ≤ m := Nat.le_trans (sz_pos d) hd.2
    have he1 : 1 ≤ e := Nat.le_trans (by cases d <;> simp [dp] <;> omega) he
    have hk2 : k + 5 < k + 6 * e := by omega
    have odd : ∀ (k2 : Int) (p2 : PyData), Pen k2 p2 → k ≤ k2 → k2 ≤ k + 3 → Wc (run T (n + e + 4)) c3 [(true, p2)] fun r fin => ∃ (o : Bool) (d' : PyData) (p' : PyData), r = (o, d') ∧ fin = [p'] ∧ (Bd (b * 1000 + 10) (2 * m + 4) d' ∧ dp d' ≤ e + 4) ∧ Pen (k + 6 * e) p' := fun k2 p2 hp2 h1 h2 => by
      refine (hD.2 (n + e) k2 p2 hp2 (by omega)).mono ?_
      rintro r fin ⟨d', p', rfl, rfl, h3, h4⟩
      exact ⟨false, d', p', rfl, rfl, ⟨h3.mono (by omega) (by omega), by have := dp_sz d'; have := h3.2; omega⟩, h4.mono (by omega)⟩
    refine Wc_of h rfl ?_
    cases d with
    | bool v =>
      have near : ∀ j : Int, -(b * 1000 + 10) < j → j < b * 1000 + 10 → Bd (b * 1000 + 10) (2 * m + 4) (.int j) ∧ dp (.int j) ≤ e + 4 := fun j h3 h4 => ⟨(Bd_int (b := b * 1000 + 10) h3 h4).mono (Int.le_refl _) (by omega), by rw [dp] <;> simp⟩
      have nearB : ∀ w : Bool, Bd (b * 1000 + 10) (2 * m + 4) (.bool w) ∧ dp (.bool w) ≤ e + 4 := fun w => ⟨Bd_bool.mono (b := b) (by omega) (by omega), by rw [dp] <;> simp⟩
      walk_at "mr"
      walk_at "tk"
      rename_i z p hz0 hz1 hp
      refine kite_d (fun h3 => ?_) (fun h3 => ?_)
      · cases v
        all_goals
          walk_at "mr"
          iterate 4
            (try simp only [Wo_addB, Wo_subB, Wo_eqBI, Wo_mulB, cmp_leB, cmp_ltB, b2i_t, b2i_f])
            (try walk_at "mr")
          walk_at "oo"
          rename_i d p hd hp
          refine ⟨_, _, _, rfl, rfl, ?_, hp.mono (by omega)⟩
          simp only [List.mem_cons, List.not_mem_nil, or_false] at hd
          rcases hd with rfl | rfl | rfl | rfl
          · exact near _ (by omega) (by omega)
          · exact near _ (by omega) (by omega)
          · exact nearB _
          · exact near _ (by omega) (by omega)
      · walk_at "mr"
        refine call_ok hD.1 (odd _ p hp (by omega) (by omega)) rfl rfl ?_
        rintro _ _ ⟨o, d', p', rfl, rfl, h5, h6⟩
        cases o
        all_goals
          walk_at "mr"
          exact ⟨_, _, _, rfl, rfl, h5, h6⟩
    | none =>
      walk_at "mr"
      refine call_ok hD.1 (odd k p hp (by omega) (by omega)) rfl rfl ?_
      rintro _ _ ⟨o, d', p', rfl, rfl, h3, h4⟩
      cases o
      all_goals
        walk_at "mr"
        exact ⟨_, _, _, rfl, rfl, h3, h4⟩
    | str v =>
      walk_at "mr"
      refine call_ok hD.1 (odd k p hp (by omega) (by omega)) rfl rfl ?_
      rintro _ _ ⟨o, d', p', rfl, rfl, h3, h4⟩
      cases o
      all_goals
        walk_at "mr"
        exact ⟨_, _, _, rfl, rfl, h3, h4⟩
    | dict v =>
      walk_at "mr"
      refine call_ok hD.1 (odd k p hp (by omega) (by omega)) rfl rfl ?_
      rintro _ _ ⟨o, d', p', rfl, rfl, h3, h4⟩
      cases o
      all_goals
        walk_at "mr"
        exact ⟨_, _, _, rfl, rfl, h3, h4⟩
    | int i =>
      have hi : -b < i ∧ i < b := by
        have := hd.1
        rw [bnd] at this
        exact of_decide_eq_true this
      have near : ∀ j : Int, -(b * 1000 + 10) < j → j < b * 1000 + 10 → Bd (b * 1000 + 10) (2 * m + 4) (.int j) ∧ dp (.int j) ≤ e + 4 := fun j h3 h4 => ⟨(Bd_int (b := b * 1000 + 10) h3 h4).mono (Int.le_refl _) (by omega), by rw [dp] <;> simp⟩
      walk_at "mr"
      walk_at "tk"
      rename_i z p hz0 hz1 hp
      refine kite_d (fun h3 => ?_) (fun h3 => ?_)
      · walk_at "mr"
        refine kite_d (fun h4 => ?_) (fun h4 => ?_)
        · walk_at "mr"
          refine kite_d (fun h5 => ?_) (fun h5 => ?_)
          all_goals
            walk_at "mr"
            walk_at "oo"
            rename_i d p hd hp
            refine ⟨_, _, _, rfl, rfl, ?_, hp.mono (by omega)⟩
            simp only [List.mem_cons, List.not_mem_nil, or_false] at hd
            rcases hd with rfl | rfl | rfl | rfl
            · exact near _ (by omega) (by omega)
            · exact near _ (by omega) (by omega)
            · first
                | exact ⟨Bd_bool.mono (b := b) (by omega) (by omega), by rw [dp] <;> simp⟩
                | exact near _ (by omega) (by omega)
            · exact near _ (by omega) (by omega)
        · walk_at "mr"
          walk_at "oo"
          rename_i d p hd hp
          refine ⟨_, _, _, rfl, rfl, ?_, hp.mono (by omega)⟩
          simp only [List.mem_cons, List.not_mem_nil, or_false] at hd
          rcases hd with rfl | rfl | rfl | rfl
          · exact near _ (by omega) (by omega)
          · exact near _ (by omega) (by omega)
          · exact near _ (by omega) (by omega)
          · exact near _ (by omega) (by omega)
      · walk_at "mr"
        refine call_ok hD.1 (odd _ p hp (by omega) (by omega)) rfl rfl ?_
        rintro _ _ ⟨o, d', p', rfl, rfl, h5, h6⟩
        cases o
        all_goals
          walk_at "mr"
          exact ⟨_, _, _, rfl, rfl, h5, h6⟩
    | tuple xs =>
      have hx : (∀ x ∈ xs, bnd b x = true) ∧ 1 + szAll xs ≤ m := by
        have h1 := hd.1
        have h2 := hd.2
        rw [bnd] at h1
        rw [sz] at h2
        exact ⟨bndAll_iff.mp h1, h2⟩
      have hnx : ∀ x ∈ xs, dp x ≤ e - 1 := by
        rw [dp] at he
        exact dpAll_le.mp (by omega)
      have hlen := szAll_len xs
      walk_at "mr"
      refine kite_d (fun h2 => ?_) (fun h2 => ?_)
      · walk_at "mr"
        refine call_ok hD.1 (odd _ p hp (by omega) (by omega)) rfl rfl ?_
        rintro _ _ ⟨o, d', p', rfl, rfl, h3, h4⟩
        cases o
        all_goals
          walk_at "mr"
          exact ⟨_, _, _, rfl, rfl, h3, h4⟩
      · walk_at "mr"
        walk_at "tk"
        rename_i z p hz0 hz1 hp
        refine kite_d (fun h3 => ?_) (fun h3 => ?_)
        · walk_at "mr"
          refine call_ok hD.1 (odd _ p hp (by omega) (by omega)) rfl rfl ?_
          rintro _ _ ⟨o, d', p', rfl, rfl, h3, h4⟩
          cases o
          all_goals
            walk_at "mr"
            exact ⟨_, _, _, rfl, rfl, h3, h4⟩
        · walk_at "mr"
          walk_at "tk"
          walk_at "tk"
          rename_i w _ hw0 hw1 _ j p hj0 hj1 hp
          obtain ⟨j, rfl⟩ := Int.eq_ofNat_of_zero_le hj0
          have hj : j < xs.length := by omega
          have ax : atD xs (j : Int) = some xs[j] := by rw [atD_ofNat, List.getElem?_eq_getElem hj]
          have bx := hx.1 xs[j] (List.getElem_mem hj)
          have sx := szAll_mem (List.getElem_mem hj)
          have px := sz_pos xs[j]
          have bm : ∀ y : PyData, bnd b y = true → bnd (b * 1000 + 10) y = true := fun y h => bnd_mono (by omega) h
          refine kite_cut (fun ρ => ∃ (o : Bool) (ys : List PyData) (q : PyData), ρ = [some (true, q), some (false, .tuple xs), some (o, .list ys), some (false, .int w), some (false, .int j)] ∧ (∀ y ∈ ys, bnd (b * 1000 + 10) y = true) ∧ (1 + szAll ys ≤ 2 * m + 4 ∧ dpAll ys ≤ e + 3) ∧ Pen (k + 6 * e - 1) q) ?_ ?_
          · refine kite_d (fun h4 => ?_) (fun h4 => ?_)
            · walk_at "mr"
              rw [ax]
              walk_at "mr"
              have r := ih (e - 1) (by omega) (sz xs[j]) n _ p b xs[j] hp (by omega) hb hb2 (by omega) ⟨bx, Nat.le_refl _⟩ (hnx _ (List.getElem_mem hj))
              rw [show n + (e - 1) + 5 = n + e + 4 by omega] at r
              refine call_ok (MuT_of h) r rfl rfl ?_
              rintro _ _ ⟨o, d', p', rfl, rfl, h5, h6⟩
              cases o
              all_goals
                walk_at "mr"
                rw [ixN_nat (by omega) (by omega), Int.toNat_natCast]
                walk_at "mr"
                refine ⟨_, _, _, rfl, fun y hy => ?_, ?_, h6.mono (by omega)⟩
                · rcases List.mem_or_eq_of_mem_set hy with hy | rfl
                  · exact bm y (hx.1 y hy)
                  · exact h5.1.1
                · have e1 := szAll_set_eq (d := d') hj
                  have := h5.1.2
                  refine ⟨by omega, dpAll_le.mpr fun y hy => ?_⟩
                  rcases List.mem_or_eq_of_mem_set hy with hy | rfl
                  · have := hnx y hy
                    omega
                  · have := h5.2
                    omega
            · walk_at "mr"
              have e1 := sliced_to (xs := xs) j
              have e2 := sliced_from (xs := xs) (j + 1)
              have e3 := sliced_mid (xs := xs) j (j + 1)
              have e4 : ((j + 1 : Nat) : Int) = (j : Int) + 1 := rfl
              rw [e4] at e2 e3
              rw [e1, e2, e3, show j + 1 - j = 1 by omega]
              have l1 : (xs.take j ++ xs.drop (j + 1)).length ≤ 20000 := by simp; omega
              have l2 : (xs ++ (xs.drop j).take 1).length ≤ 20001 := by simp; omega
              have s1 : szAll (xs.take j ++ xs.drop (j + 1)) ≤ szAll xs + szAll xs := by
                rw [szAll_append]
                have := szAll_take j xs
                have := szAll_drop (j + 1) xs
                omega
              have s2 : szAll (xs ++ (xs.drop j).take 1) ≤ szAll xs + szAll xs := by
                rw [szAll_append]
                have := szAll_take 1 (xs.drop j)
                have := szAll_drop j xs
                omega
              have s3 := szAll_reverse xs
              have b1 : ∀ y ∈ xs.take j ++ xs.drop (j + 1), bnd (b * 1000 + 10) y = true := fun y hy => by
                rcases List.mem_append.mp hy with hy | hy
                · exact bm y (hx.1 y (List.mem_of_mem_take hy))
                · exact bm y (hx.1 y (List.mem_of_mem_drop hy))
              have b2 : ∀ y ∈ xs ++ (xs.drop j).take 1, bnd (b * 1000 + 10) y = true := fun y hy => by
                rcases List.mem_append.mp hy with hy | hy
                · exact bm y (hx.1 y hy)
                · exact bm y (hx.1 y (List.mem_of_mem_drop (List.mem_of_mem_take hy)))
              have b3 : ∀ y ∈ xs.reverse, bnd (b * 1000 + 10) y = true := fun y hy => bm y (hx.1 y (List.mem_reverse.mp hy))
              have d0 : ∀ y ∈ xs, dp y ≤ e + 3 := fun y hy => Nat.le_trans (hnx y hy) (by omega)
              have d1 : ∀ y ∈ xs.take j ++ xs.drop (j + 1), dp y ≤ e + 3 := fun y hy => by
                rcases List.mem_append.mp hy with hy | hy
                · exact d0 y (List.mem_of_mem_take hy)
                · exact d0 y (List.mem_of_mem_drop hy)
              have d2 : ∀ y ∈ xs ++ (xs.drop j).take 1, dp y ≤ e + 3 := fun y hy => by
                rcases List.mem_append.mp hy with hy | hy
                · exact d0 y hy
                · exact d0 y (List.mem_of_mem_drop (List.mem_of_mem_take hy))
              have d3 : ∀ y ∈ xs.reverse, dp y ≤ e + 3 := fun y hy => d0 y (List.mem_reverse.mp hy)
              have hw : w = 7 ∨ w = 8 ∨ w = 9 := by omega
              refine ⟨szOk_of (by rw [List.length_append] at l1; exact Nat.le_trans l1 (by omega)), szOk_of (by rw [List.length_append] at l2; exact Nat.le_trans l2 (by omega)), ?_⟩
              walk_at "mr"
              rcases hw with rfl | rfl | rfl
              · rw [show (7 : Int) - 7 = 0 from rfl, atD_0]
                walk_at "mr"
                exact ⟨_, _, _, rfl, b1, ⟨by omega, dpAll_le.mpr d1⟩, hp.mono (by omega)⟩
              · rw [show (8 : Int) - 7 = 1 from rfl, atD_1]
                walk_at "mr"
                exact ⟨_, _, _, rfl, b2, ⟨by omega, dpAll_le.mpr d2⟩, hp.mono (by omega)⟩
              · rw [show (9 : Int) - 7 = 2 from rfl, atD_2]
                walk_at "mr"
                exact ⟨_, _, _, rfl, b3, ⟨by omega, dpAll_le.mpr d3⟩, hp.mono (by omega)⟩
          · rintro _ ⟨o, ys, q, rfl, hy1, hy2, hq⟩
            cases o
            all_goals
              walk_at "mr"
              walk_at "tk"
              rename_i z2 p3 _ _ hp3
              obtain hb3 | hb3 := Bool.eq_false_or_eq_true (decide (0 < z2))
              all_goals
                rw [hb3]
                walk_at "mr"
                first
                  | exact ⟨_, _, _, rfl, rfl, ⟨Bd_tuple hy1 hy2.1, by rw [dp]; have := hy2.2; omega⟩, hp3.mono (by omega)⟩
                  | exact ⟨_, _, _, rfl, rfl, ⟨Bd_list hy1 hy2.1, by rw [dp]; have := hy2.2; omega⟩, hp3.mono (by omega)⟩
    | list xs =>
      have hx : (∀ x ∈ xs, bnd b x = true) ∧ 1 + szAll xs ≤ m := by
        have h1 := hd.1
        have h2 := hd.2
        rw [bnd] at h1
        rw [sz] at h2
        exact ⟨bndAll_iff.mp h1, h2⟩
      have hnx : ∀ x ∈ xs, dp x ≤ e - 1 := by
        rw [dp] at he
        exact dpAll_le.mp (by omega)
      have hlen := szAll_len xs
      walk_at "mr"
      refine kite_d (fun h2 => ?_) (fun h2 => ?_)
      · walk_at "mr"
        refine call_ok hD.1 (odd _ p hp (by omega) (by omega)) rfl rfl ?_
        rintro _ _ ⟨o, d', p', rfl, rfl, h3, h4⟩
        cases o
        all_goals
          walk_at "mr"
          exact ⟨_, _, _, rfl, rfl, h3, h4⟩
      · walk_at "mr"
        walk_at "tk"
        rename_i z p hz0 hz1 hp
        refine kite_d (fun h3 => ?_) (fun h3 => ?_)
        · walk_at "mr"
          refine call_ok hD.1 (odd _ p hp (by omega) (by omega)) rfl rfl ?_
          rintro _ _ ⟨o, d', p', rfl, rfl, h3, h4⟩
          cases o
          all_goals
            walk_at "mr"
            exact ⟨_, _, _, rfl, rfl, h3, h4⟩
        · walk_at "mr"
          walk_at "tk"
          walk_at "tk"
          rename_i w _ hw0 hw1 _ j p hj0 hj1 hp
          obtain ⟨j, rfl⟩ := Int.eq_ofNat_of_zero_le hj0
          have hj : j < xs.length := by omega
          have ax : atD xs (j : Int) = some xs[j] := by rw [atD_ofNat, List.getElem?_eq_getElem hj]
          have bx := hx.1 xs[j] (List.getElem_mem hj)
          have sx := szAll_mem (List.getElem_mem hj)
          have px := sz_pos xs[j]
          have bm : ∀ y : PyData, bnd b y = true → bnd (b * 1000 + 10) y = true := fun y h => bnd_mono (by omega) h
          refine kite_cut (fun ρ => ∃ (o : Bool) (ys : List PyData) (q : PyData), ρ = [some (true, q), some (false, .list xs), some (o, .list ys), some (false, .int w), some (false, .int j)] ∧ (∀ y ∈ ys, bnd (b * 1000 + 10) y = true) ∧ (1 + szAll ys ≤ 2 * m + 4 ∧ dpAll ys ≤ e + 3) ∧ Pen (k + 6 * e - 1) q) ?_ ?_
          · refine kite_d (fun h4 => ?_) (fun h4 => ?_)
            · walk_at "mr"
              rw [ax]
              walk_at "mr"
              have r := ih (e - 1) (by omega) (sz xs[j]) n _ p b xs[j] hp (by omega) hb hb2 (by omega) ⟨bx, Nat.le_refl _⟩ (hnx _ (List.getElem_mem hj))
              rw [show n + (e - 1) + 5 = n + e + 4 by omega] at r
              refine call_ok (MuT_of h) r rfl rfl ?_
              rintro _ _ ⟨o, d', p', rfl, rfl, h5, h6⟩
              cases o
              all_goals
                walk_at "mr"
                rw [ixN_nat (by omega) (by omega), Int.toNat_natCast]
                walk_at "mr"
                refine ⟨_, _, _, rfl, fun y hy => ?_, ?_, h6.mono (by omega)⟩
                · rcases List.mem_or_eq_of_mem_set hy with hy | rfl
                  · exact bm y (hx.1 y hy)
                  · exact h5.1.1
                · have e1 := szAll_set_eq (d := d') hj
                  have := h5.1.2
                  refine ⟨by omega, dpAll_le.mpr fun y hy => ?_⟩
                  rcases List.mem_or_eq_of_mem_set hy with hy | rfl
                  · have := hnx y hy
                    omega
                  · have := h5.2
                    omega
            · walk_at "mr"
              have e1 := sliced_to (xs := xs) j
              have e2 := sliced_from (xs := xs) (j + 1)
              have e3 := sliced_mid (xs := xs) j (j + 1)
              have e4 : ((j + 1 : Nat) : Int) = (j : Int) + 1 := rfl
              rw [e4] at e2 e3
              rw [e1, e2, e3, show j + 1 - j = 1 by omega]
              have l1 : (xs.take j ++ xs.drop (j + 1)).length ≤ 20000 := by simp; omega
              have l2 : (xs ++ (xs.drop j).take 1).length ≤ 20001 := by simp; omega
              have s1 : szAll (xs.take j ++ xs.drop (j + 1)) ≤ szAll xs + szAll xs := by
                rw [szAll_append]
                have := szAll_take j xs
                have := szAll_drop (j + 1) xs
                omega
              have s2 : szAll (xs ++ (xs.drop j).take 1) ≤ szAll xs + szAll xs := by
                rw [szAll_append]
                have := szAll_take 1 (xs.drop j)
                have := szAll_drop j xs
                omega
              have s3 := szAll_reverse xs
              have b1 : ∀ y ∈ xs.take j ++ xs.drop (j + 1), bnd (b * 1000 + 10) y = true := fun y hy => by
                rcases List.mem_append.mp hy with hy | hy
                · exact bm y (hx.1 y (List.mem_of_mem_take hy))
                · exact bm y (hx.1 y (List.mem_of_mem_drop hy))
              have b2 : ∀ y ∈ xs ++ (xs.drop j).take 1, bnd (b * 1000 + 10) y = true := fun y hy => by
                rcases List.mem_append.mp hy with hy | hy
                · exact bm y (hx.1 y hy)
                · exact bm y (hx.1 y (List.mem_of_mem_drop (List.mem_of_mem_take hy)))
              have b3 : ∀ y ∈ xs.reverse, bnd (b * 1000 + 10) y = true := fun y hy => bm y (hx.1 y (List.mem_reverse.mp hy))
              have d0 : ∀ y ∈ xs, dp y ≤ e + 3 := fun y hy => Nat.le_trans (hnx y hy) (by omega)
              have d1 : ∀ y ∈ xs.take j ++ xs.drop (j + 1), dp y ≤ e + 3 := fun y hy => by
                rcases List.mem_append.mp hy with hy | hy
                · exact d0 y (List.mem_of_mem_take hy)
                · exact d0 y (List.mem_of_mem_drop hy)
              have d2 : ∀ y ∈ xs ++ (xs.drop j).take 1, dp y ≤ e + 3 := fun y hy => by
                rcases List.mem_append.mp hy with hy | hy
                · exact d0 y hy
                · exact d0 y (List.mem_of_mem_drop (List.mem_of_mem_take hy))
              have d3 : ∀ y ∈ xs.reverse, dp y ≤ e + 3 := fun y hy => d0 y (List.mem_reverse.mp hy)
              have hw : w = 7 ∨ w = 8 ∨ w = 9 := by omega
              refine ⟨szOk_of (by rw [List.length_append] at l1; exact Nat.le_trans l1 (by omega)), szOk_of (by rw [List.length_append] at l2; exact Nat.le_trans l2 (by omega)), ?_⟩
              walk_at "mr"
              rcases hw with rfl | rfl | rfl
              · rw [show (7 : Int) - 7 = 0 from rfl, atD_0]
                walk_at "mr"
                exact ⟨_, _, _, rfl, b1, ⟨by omega, dpAll_le.mpr d1⟩, hp.mono (by omega)⟩
              · rw [show (8 : Int) - 7 = 1 from rfl, atD_1]
                walk_at "mr"
                exact ⟨_, _, _, rfl, b2, ⟨by omega, dpAll_le.mpr d2⟩, hp.mono (by omega)⟩
              · rw [show (9 : Int) - 7 = 2 from rfl, atD_2]
                walk_at "mr"
                exact ⟨_, _, _, rfl, b3, ⟨by omega, dpAll_le.mpr d3⟩, hp.mono (by omega)⟩
          · rintro _ ⟨o, ys, q, rfl, hy1, hy2, hq⟩
            cases o
            all_goals
              walk_at "mr"
              walk_at "tk"
              rename_i z2 p3 _ _ hp3
              obtain hb3 | hb3 := Bool.eq_false_or_eq_true (decide (0 < z2))
              all_goals
                rw [hb3]
                walk_at "mr"
                first
                  | exact ⟨_, _, _, rfl, rfl, ⟨Bd_tuple hy1 hy2.1, by rw [dp]; have := hy2.2; omega⟩, hp3.mono (by omega)⟩
                  | exact ⟨_, _, _, rfl, rfl, ⟨Bd_list hy1 hy2.1, by rw [dp]; have := hy2.2; omega⟩, hp3.mono (by omega)⟩

def fn_is_row (c_is_integer : Nat) : Fn := ⟨"is_row", [false, false], 3,
  (.cons (.ite (.or (.cons (.op .not (.cons (.op (.isa [.tuple]) (.cons (.var 1) .nil)) .nil)) (.cons (.op (.cmp .ne) (.cons (.op .len (.cons (.var 1) .nil)) (.cons (.cst (.int 2)) .nil))) (.cons (.op .not (.cons (.op (.isa [.bool]) (.cons (.op .idx (.cons (.var 1) (.cons (.cst (.int 1)) .nil))) .nil)) .nil)) .nil))))
    (.cons (.ret (.cst (.bl false)))
    .nil)
    .nil)
  (.cons (.ite (.or (.cons (.op .not (.cons (.op (.isa [.tuple]) (.cons (.op .idx (.cons (.var 1) (.cons (.cst (.int 0)) .nil))) .nil)) .nil)) (.cons (.op (.cmp .ne) (.cons (.op .len (.cons (.op .idx (.cons (.var 1) (.cons (.cst (.int 0)) .nil))) .nil)) (.cons (.var 0) .nil))) .nil)))
    (.cons (.ret (.cst (.bl false)))
    .nil)
    .nil)
  (.cons (.ret (.op .all (.cons (.comp [2] (.call c_is_integer (.cons (.var 2) .nil)) (.last (.var 2) (.val (.op .idx (.cons (.var 1) (.cons (.cst (.int 0)) .nil)))) .nil)) .nil)))
  .nil)))⟩
def fn_is_system (c_is_row : Nat) : Fn := ⟨"is_system", [false, false], 3,
  (.cons (.ret (.and (.cons (.op (.isa [.tuple]) (.cons (.var 1) .nil)) (.cons (.op (.cmp .le) (.cons (.op .len (.cons (.var 1) .nil)) (.cons (.glb "MOST_ROWS" (.int (24))) .nil))) (.cons (.op .all (.cons (.comp [2] (.call c_is_row (.cons (.var 0) (.cons (.var 2) .nil))) (.last (.var 2) (.val (.var 1)) .nil)) .nil)) .nil)))))
  .nil)⟩
def fn_comes_toY : Fn := ⟨"comes_to", [false, false], 4,
  (.cons (.ret (.op .sum (.cons (.comp [2, 3] (.op (.bin .mul) (.cons (.var 2) (.cons (.var 3) .nil))) (.last (.tup (.cons (.var 2) (.cons (.var 3) .nil))) (.zip true (.cons (.op .idx (.cons (.var 0) (.cons (.cst (.int 0)) .nil))) (.cons (.var 1) .nil))) .nil)) .nil)))
  .nil)⟩
def fn_law_comes : Fn := ⟨"_law_comes", [false, false], 4,
  (.cons (.ret (.op .sum (.cons (.comp [2, 3] (.op (.bin .mul) (.cons (.var 2) (.cons (.var 3) .nil))) (.last (.tup (.cons (.var 2) (.cons (.var 3) .nil))) (.zip false (.cons (.op .idx (.cons (.var 0) (.cons (.cst (.int 0)) .nil))) (.cons (.var 1) .nil))) .nil)) .nil)))
  .nil)⟩
def fn_law_draw_row (c__law_one_of c__law_take : Nat) : Fn := ⟨"_law_draw_row", [true, false], 4,
  (.cons (.asg (.var 2) (.comp [3] (.call c__law_one_of (.cons (.var 0) (.cons (.op .lst (.cons (.cst (.int 0)) (.cons (.cst (.int 0)) (.cons (.cst (.int 1)) (.cons (.op .neg (.cons (.cst (.int 1)) .nil)) (.cons (.cst (.int 1)) (.cons (.op .neg (.cons (.cst (.int 1)) .nil)) (.cons (.cst (.int 2)) (.cons (.op .neg (.cons (.cst (.int 2)) .nil)) (.cons (.cst (.int 3)) (.cons (.op .neg (.cons (.cst (.int 5)) .nil)) (.cons (.op (.bin .sub) (.cons (.call c__law_take (.cons (.var 0) (.cons (.cst (.int 199)) .nil))) (.cons (.cst (.int 99)) .nil))) .nil)))))))))))) .nil))) (.last (.var 3) (.rng (.cons (.var 1) .nil)) .nil)))
  (.cons (.ite (.op (.cmp .eq) (.cons (.call c__law_take (.cons (.var 0) (.cons (.cst (.int 12)) .nil))) (.cons (.cst (.int 0)) .nil)))
    (.cons (.set 2 (.cst (.int 0)) (.call c__law_one_of (.cons (.var 0) (.cons (.op .lst (.cons (.op (.bin .pow) (.cons (.cst (.int 10)) (.cons (.cst (.int 20)) .nil))) (.cons (.op (.bin .sub) (.cons (.cst (.int 7)) (.cons (.op (.bin .pow) (.cons (.cst (.int 10)) (.cons (.cst (.int 20)) .nil))) .nil))) .nil))) .nil))))
    .nil)
    .nil)
  (.cons (.ite (.op (.cmp .eq) (.cons (.call c__law_take (.cons (.var 0) (.cons (.cst (.int 15)) .nil))) (.cons (.cst (.int 0)) .nil)))
    (.cons (.asg (.var 2) (.op (.bin .mul) (.cons (.op .lst (.cons (.cst (.int 0)) .nil)) (.cons (.var 1) .nil))))
    .nil)
    .nil)
  (.cons (.ret (.op .tup (.cons (.op .tuple (.cons (.var 2) .nil)) (.cons (.op (.cmp .eq) (.cons (.call c__law_take (.cons (.var 0) (.cons (.cst (.int 2)) .nil))) (.cons (.cst (.int 0)) .nil))) .nil))))
  .nil))))⟩
def fn_law_with_point (c__law_take c__law_comes : Nat) : Fn := ⟨"_law_with_point", [true, false, false], 11,
  (.cons (.par [.tg (.var 3), .tg (.var 4)] (.cons (.op .tuple (.cons (.comp [9] (.op (.bin .sub) (.cons (.call c__law_take (.cons (.var 0) (.cons (.cst (.int 7)) .nil))) (.cons (.cst (.int 3)) .nil))) (.last (.var 9) (.rng (.cons (.var 1) .nil)) .nil)) .nil)) (.cons (.op .lst .nil) .nil)))
  (.cons (.for (.tup (.cons (.var 5) (.cons (.var 6) .nil))) (.val (.var 2))
    (.cons (.asg (.var 7) (.call c__law_comes (.cons (.op .tup (.cons (.var 5) (.cons (.cst (.bl true)) .nil))) (.cons (.var 3) .nil))))
    (.cons (.asg (.var 8) (.ite (.op (.cmp .lt) (.cons (.var 7) (.cons (.cst (.int 0)) .nil))) (.op .tuple (.cons (.comp [10] (.op (.bin .sub) (.cons (.cst (.int 0)) (.cons (.var 10) .nil))) (.last (.var 10) (.val (.var 5)) .nil)) .nil)) (.var 5)))
    (.cons (.exp (.meth .append 4 (.cons (.op .tup (.cons (.var 8) (.cons (.and (.cons (.var 6) (.cons (.op (.cmp .ne) (.cons (.var 7) (.cons (.cst (.int 0)) .nil))) .nil))) .nil))) .nil)))
    .nil))))
  (.cons (.ret (.op .tuple (.cons (.var 4) .nil)))
  .nil)))⟩
def fn_law_with_weights (c__law_take : Nat) : Fn := ⟨"_law_with_weights", [true, false, false], 10,
  (.cons (.asg (.var 3) (.op (.bin .mul) (.cons (.op .tup (.cons (.cst (.int 0)) .nil)) (.cons (.var 1) .nil))))
  (.cons (.for (.tup (.cons (.var 4) (.cons (.var 5) .nil))) (.val (.var 2))
    (.cons (.asg (.var 7) (.call c__law_take (.cons (.var 0) (.cons (.cst (.int 3)) .nil))))
    (.cons (.asg (.var 3) (.op .tuple (.cons (.comp [8, 9] (.op (.bin .sub) (.cons (.var 8) (.cons (.op (.bin .mul) (.cons (.var 7) (.cons (.var 9) .nil))) .nil))) (.last (.tup (.cons (.var 8) (.cons (.var 9) .nil))) (.zip false (.cons (.var 3) (.cons (.var 4) .nil))) .nil)) .nil)))
    .nil)))
  (.cons (.asg (.var 6) (.op .list (.cons (.var 2) .nil)))
  (.cons (.exp (.meth .insert 6 (.cons (.call c__law_take (.cons (.var 0) (.cons (.op (.bin .add) (.cons (.op .len (.cons (.var 6) .nil)) (.cons (.cst (.int 1)) .nil))) .nil))) (.cons (.op .tup (.cons (.var 3) (.cons (.cst (.bl true)) .nil))) .nil))))
  (.cons (.ret (.op .tuple (.cons (.var 6) .nil)))
  .nil)))))⟩
def fn_law_draw_system (c__law_take c__law_draw_row c__law_with_point c__law_with_weights : Nat) : Fn := ⟨"_law_draw_system", [true, false, false], 7,
  (.cons (.asg (.var 3) (.op (.bin .add) (.cons (.cst (.int 1)) (.cons (.call c__law_take (.cons (.var 0) (.cons (.var 1) .nil))) .nil))))
  (.cons (.asg (.var 4) (.op .tuple (.cons (.comp [6] (.call c__law_draw_row (.cons (.var 0) (.cons (.var 3) .nil))) (.last (.var 6) (.rng (.cons (.call c__law_take (.cons (.var 0) (.cons (.op (.bin .add) (.cons (.var 2) (.cons (.cst (.int 1)) .nil))) .nil))) .nil)) .nil)) .nil)))
  (.cons (.asg (.var 5) (.call c__law_take (.cons (.var 0) (.cons (.cst (.int 5)) .nil))))
  (.cons (.ite (.op (.cmp .lt) (.cons (.var 5) (.cons (.cst (.int 2)) .nil)))
    (.cons (.ret (.op .tup (.cons (.var 3) (.cons (.call c__law_with_point (.cons (.var 0) (.cons (.var 3) (.cons (.var 4) .nil)))) .nil))))
    .nil)
    .nil)
  (.cons (.ret (.op .tup (.cons (.var 3) (.cons (.ite (.op (.cmp .lt) (.cons (.var 5) (.cons (.cst (.int 4)) .nil))) (.call c__law_with_weights (.cons (.var 0) (.cons (.var 3) (.cons (.var 4) .nil)))) (.var 4)) .nil))))
  .nil)))))⟩
def fn_law_is_system (c__law_is_whole : Nat) : Fn := ⟨"_law_is_system", [false, false], 4,
  (.cons (.ite (.or (.cons (.op .not (.cons (.op (.isa [.tuple]) (.cons (.var 1) .nil)) .nil)) (.cons (.op (.cmp .gt) (.cons (.op .len (.cons (.var 1) .nil)) (.cons (.cst (.int 24)) .nil))) .nil)))
    (.cons (.ret (.cst (.bl false)))
    .nil)
    .nil)
  (.cons (.for (.var 2) (.val (.var 1))
    (.cons (.ite (.or (.cons (.op .not (.cons (.op (.isa [.tuple]) (.cons (.var 2) .nil)) .nil)) (.cons (.op (.cmp .ne) (.cons (.op .len (.cons (.var 2) .nil)) (.cons (.cst (.int 2)) .nil))) (.cons (.op .not (.cons (.op (.isa [.bool]) (.cons (.op .idx (.cons (.var 2) (.cons (.cst (.int 1)) .nil))) .nil)) .nil)) (.cons (.op .not (.cons (.op (.isa [.tuple]) (.cons (.op .idx (.cons (.var 2) (.cons (.cst (.int 0)) .nil))) .nil)) .nil)) .nil)))))
      (.cons (.ret (.cst (.bl false)))
      .nil)
      .nil)
    (.cons (.ite (.or (.cons (.op (.cmp .ne) (.cons (.op .len (.cons (.op .idx (.cons (.var 2) (.cons (.cst (.int 0)) .nil))) .nil)) (.cons (.var 0) .nil))) (.cons (.op (.cmp .isin) (.cons (.cst (.bl false)) (.cons (.comp [3] (.call c__law_is_whole (.cons (.var 3) .nil)) (.last (.var 3) (.val (.op .idx (.cons (.var 2) (.cons (.cst (.int 0)) .nil)))) .nil)) .nil))) .nil)))
      (.cons (.ret (.cst (.bl false)))
      .nil)
      .nil)
    .nil)))
  (.cons (.ret (.cst (.bl true)))
  .nil)))⟩
/-! ### systems -/
def srowD (r : List Int × Bool) : PyData := .tuple [caseD r.1, .bool r.2]
def sysD (rs : List (List Int × Bool)) : PyData := .tuple (rs.map srowD)
def dotY (f g : List Int) : Int := (List.zipWith (fun a b => a * b) f g).sum
def wRow (n : Nat) : PyData → Bool
  | .tuple [.tuple xs, .bool _] => decide (xs.length = n) && xs.all isI
  | _ => false
def sysB (n : Nat) : PyData → Bool
  | .tuple rs => decide (rs.length ≤ 24) && rs.all (wRow n)
  | _ => false
def S_is_row (T : List Fn) (f : Nat) : Prop := MuT T f = [false, false] ∧ ∀ (m n : Nat) (d : PyData), sz d ≤ 1000 → Wc (run T (m + 2)) f [(false, .int n), (false, d)] fun r fin => r = (false, .bool (wRow n d)) ∧ fin = []
theorem wRow_two {n : Nat} {a b : PyData} (h : isT b .bool = false) : wRow n (.tuple [a, b]) = false := by
  cases b with
  | bool v => cases h
  | _ => cases a <;> rfl
theorem wRow_fst {n : Nat} {a b : PyData} (h : isT a .tuple = false) : wRow n (.tuple [a, b]) = false := by
  cases a with
  | tuple v => cases h
  | _ => cases b <;> rfl
theorem wRow_len {n : Nat} {xs : List PyData} (h : xs.length ≠ 2) : wRow n (.tuple xs) = false := by
  match xs, h with
  | [], _ => rfl
  | [a], _ => cases a <;> rfl
  | [a, b], h => exact absurd rfl h
  | a :: b :: c :: r, _ => cases a <;> cases b <;> rfl
theorem is_row_S {T : List Fn} {f c1 : Nat} (h : T[f]? = some (fn_is_row c1)) (hI : S_is_integer T c1) : S_is_row T f := by
  refine ⟨MuT_of h, fun m n d hd => ?_⟩
  refine Wc_of h rfl ?_
  cases d with
  | tuple xs =>
    have hx := sz_len hd
    match xs, hd, hx with
    | [], _, _ =>
      walk_at "mr"
      rfl
    | [a], _, _ =>
      walk_at "mr"
      rw [wRow_len (by simp)]
    | a :: b :: c :: r, _, _ =>
      walk_at "mr"
      refine kite_d (fun h3 => absurd h3 (by omega)) (fun h3 => ?_)
      walk_at "mr"
      rw [wRow_len (by simp)]
    | [a, b], hd, _ =>
      have ha := sz_mem hd (List.mem_cons_self .. : a ∈ [a, b])
      cases b with
      | bool v =>
        cases a with
        | tuple ys =>
          have hy := sz_len ha
          walk_at "mr"
          rw [show decide (((ys.length : Nat) : Int) = ((n : Nat) : Int)) = decide (ys.length = n) from decide_eq_decide.mpr (by omega), wRow]
          refine kite_d (fun h2 => ?_) (fun h2 => ?_)
          · rw [decide_eq_true h2]
            walk_at "mr"
            refine Wk_as (List.map_id ys).symm ?_
            refine Wk_map1 (fun x => .bool (isI x)) (by omega) (fun x hx o => ?_) ?_
            · unfold id
              walk_at "mr"
              refine call_ok hI.1 (hI.2 _ x) rfl rfl ?_
              rintro _ _ ⟨rfl, rfl⟩
              walk_at "mr"
              walk_at "en"
            walk_at "mr"
            rw [boolish_ty, all_ty]
            refine ⟨rfl, ?_⟩
            walk_at "mr"
          · rw [decide_eq_false h2]
            walk_at "mr"
        | _ =>
          walk_at "mr"
          rfl
      | _ =>
        walk_at "mr"
        rw [wRow_two rfl]
  | _ =>
    walk_at "mr"
    rfl
def S_is_system (T : List Fn) (f : Nat) : Prop := MuT T f = [false, false] ∧ ∀ (m n : Nat) (d : PyData), sz d ≤ 1000 → Wc (run T (m + 3)) f [(false, .int n), (false, d)] fun r fin => r = (false, .bool (sysB n d)) ∧ fin = []
theorem is_system_S {T : List Fn} {f c1 : Nat} (h : T[f]? = some (fn_is_system c1)) (hR : S_is_row T c1) : S_is_system T f := by
  refine ⟨MuT_of h, fun m n d hd => ?_⟩
  refine Wc_of h rfl ?_
  cases d with
  | tuple xs =>
    have hx := sz_len hd
    walk_at "mr"
    rw [show decide (((xs.length : Nat) : Int) ≤ 24) = decide (xs.length ≤ 24) from decide_eq_decide.mpr (by omega), sysB]
    refine kite_d (fun h2 => ?_) (fun h2 => ?_)
    · rw [decide_eq_true h2]
      walk_at "mr"
      refine Wk_as (List.map_id xs).symm ?_
      refine Wk_map1 (fun x => .bool (wRow n x)) (by omega) (fun x hx o => ?_) ?_
      · unfold id
        walk_at "mr"
        refine call_ok hR.1 (hR.2 _ n x (sz_mem hd hx)) rfl rfl ?_
        rintro _ _ ⟨rfl, rfl⟩
        walk_at "mr"
        walk_at "en"
      walk_at "mr"
      rw [boolish_ty, all_ty]
      refine ⟨rfl, ?_⟩
      walk_at "mr"
    · rw [decide_eq_false h2]
      walk_at "mr"
  | _ =>
    walk_at "mr"
    rfl
theorem law_is_system_S {T : List Fn} {f c1 : Nat} (h : T[f]? = some (fn_law_is_system c1)) (hI : S_law_is_whole T c1) : S_is_system T f := by
  refine ⟨MuT_of h, fun m n d hd => ?_⟩
  refine Wc_of h rfl ?_
  cases d with
  | tuple xs =>
    have hx := sz_len hd
    walk_at "mr"
    refine kite_d (fun h2 => ?_) (fun h2 => ?_)
    · walk_at "mr"
      rw [sysB, decide_eq_false (by omega)]
      rfl
    · walk_at "mr"
      rw [sysB, decide_eq_true (by omega), Bool.true_and]
      refine Wf_as (List.map_id xs).symm ?_
      refine Wf_pre (dat := id) xs (fun a ρ => (∃ o2 o3, ρ = [some (false, .int n), some (false, .tuple xs), o2, o3]) ∧ a.all (wRow n) = true) ⟨⟨_, _, rfl⟩, rfl⟩ ?_ ?_
      · rintro a x r _ e ⟨⟨o2, o3, rfl⟩, ha⟩
        have hxm : x ∈ xs := by rw [e]; simp
        have hsx := sz_mem hd hxm
        have no : wRow n x = false → xs.all (wRow n) = false := fun hx => by rw [e, List.all_append, List.all_cons, hx]; simp
        have yes : wRow n x = true → (a ++ [x]).all (wRow n) = true := fun hx => by rw [List.all_append, ha, List.all_cons, hx]; rfl
        unfold id
        cases x with
        | tuple zs =>
          match zs, hsx with
          | [], _ =>
            walk_at "mr"
            rw [no rfl]
          | [a], _ =>
            walk_at "mr"
            rw [no (wRow_len (by simp))]
          | a :: b :: c :: r, _ =>
            walk_at "mr"
            refine kite_d (fun h3 => absurd h3 (by omega)) (fun h3 => ?_)
            walk_at "mr"
            rw [no (wRow_len (by simp))]
          | [a, b], hsx =>
            have ha' := sz_mem hsx (List.mem_cons_self .. : a ∈ [a, b])
            cases b with
            | bool v =>
              cases a with
              | tuple ys =>
                have hy := sz_len ha'
                walk_at "mr"
                refine kite_d (fun h2 => ?_) (fun h2 => ?_)
                · walk_at "mr"
                  refine Wk_as (List.map_id ys).symm ?_
                  refine Wk_map1 (fun x => .bool (isI x)) (by omega) (fun x hx o => ?_) ?_
                  · unfold id
                    walk_at "mr"
                    refine call_ok hI.1 (hI.2 _ x) rfl rfl ?_
                    rintro _ _ ⟨rfl, rfl⟩
                    walk_at "mr"
                    walk_at "en"
                  walk_at "mr"
                  rw [okDs_boolT, false_in]
                  refine ⟨rfl, ?_⟩
                  have ew : wRow n (.tuple [.tuple ys, .bool v]) = ys.all isI := by
                    rw [wRow, decide_eq_true (by omega)]
                    rfl
                  cases hal : ys.all isI with
                  | true =>
                    walk_at "mr"
                    exact ⟨⟨_, _, rfl⟩, yes (by rw [ew, hal])⟩
                  | false =>
                    walk_at "mr"
                    rw [no (by rw [ew, hal])]
                · walk_at "mr"
                  rw [no (by rw [wRow, decide_eq_false (by omega)]; rfl)]
              | _ =>
                walk_at "mr"
                rw [no rfl]
            | _ =>
              walk_at "mr"
              rw [no (wRow_two rfl)]
        | _ =>
          walk_at "mr"
          rw [no rfl]
      · rintro _ ⟨⟨o2, o3, rfl⟩, ha⟩
        walk_at "mr"
        rw [ha]
  | _ =>
    walk_at "mr"
    rfl
def y2 (F : Int → Int → Int) : PyData → List PyData
  | .tuple [.int a, .int b] => [.int (F a b)]
  | _ => []
theorem y2_zip (F : Int → Int → Int) : ∀ f g : List Int, ((((f.map PyData.int).zip (g.map PyData.int)).map fun p => [p.1, p.2]).map PyData.tuple).flatMap (y2 F) = (List.zipWith F f g).map .int
  | [], g => by simp
  | x :: f, [] => by simp
  | x :: f, y :: g => congrArg (PyData.int (F x y) :: ·) (y2_zip F f g)
def S_comes (T : List Fn) (f : Nat) : Prop := MuT T f = [false, false] ∧ ∀ (n : Nat) (r : List Int × Bool) (pt : List Int), r.1.length ≤ 1000 → r.1.length = pt.length → (∀ x ∈ r.1, ∀ z ∈ pt, mulOk x z = true) → Wc (run T (n + 1)) f [(false, srowD r), (false, caseD pt)] fun r' fin => r' = (false, .int (dotY r.1 pt)) ∧ fin = []
theorem comes_to_Y {T : List Fn} {f : Nat} (h : T[f]? = some fn_comes_toY) : S_comes T f := by
  refine ⟨MuT_of h, fun n r pt hr hl hp => ?_⟩
  refine Wc_of h rfl ?_
  obtain ⟨g, b⟩ := r
  unfold srowD caseD
  walk_at "mr"
  refine ⟨hl, ?_⟩
  refine Wk_pure2 (y2 fun a b => a * b) (fun y hy o o2 => ?_) ?_
  · obtain ⟨a, b, rfl, hm⟩ := zip_mem hy
    obtain ⟨h1, h2⟩ := List.of_mem_zip hm
    obtain ⟨x, hx, rfl⟩ := List.mem_map.mp h1
    obtain ⟨z, hz, rfl⟩ := List.mem_map.mp h2
    have := hp x hx z hz
    walk_at "mr"
    exact ⟨this, rfl, _, _, rfl⟩
  · rw [y2_zip]
    have hr : g.length ≤ 1000 := hr
    refine ⟨szOk_of (by rw [List.length_map, List.length_zipWith]; omega), ?_⟩
    walk_at "mr"
    rw [sumI_ints]
    walk_at "mr"
    rfl
theorem law_comes_Y {T : List Fn} {f : Nat} (h : T[f]? = some fn_law_comes) : S_comes T f := by
  refine ⟨MuT_of h, fun n r pt hr hl hp => ?_⟩
  refine Wc_of h rfl ?_
  obtain ⟨g, b⟩ := r
  unfold srowD caseD
  walk_at "mr"
  refine Wk_pure2 (y2 fun a b => a * b) (fun y hy o o2 => ?_) ?_
  · obtain ⟨a, b, rfl, hm⟩ := zip_mem hy
    obtain ⟨h1, h2⟩ := List.of_mem_zip hm
    obtain ⟨x, hx, rfl⟩ := List.mem_map.mp h1
    obtain ⟨z, hz, rfl⟩ := List.mem_map.mp h2
    have := hp x hx z hz
    walk_at "mr"
    exact ⟨this, rfl, _, _, rfl⟩
  · rw [y2_zip]
    have hr : g.length ≤ 1000 := hr
    refine ⟨szOk_of (by rw [List.length_map, List.length_zipWith]; omega), ?_⟩
    walk_at "mr"
    rw [sumI_ints]
    walk_at "mr"
    rfl
/-! ### systems drawn -/
def RowOk (n : Nat) (b : Int) (r : List Int × Bool) : Prop := r.1.length = n ∧ ∀ x ∈ r.1, -b < x ∧ x < b
theorem RowOk.mono {n : Nat} {b b' : Int} {r : List Int × Bool} (h : RowOk n b r) (hb : b ≤ b') : RowOk n b' r := ⟨h.1, fun x hx => by have := h.2 x hx; omega⟩
def B0 : Int := 100000000000000000001
def S_draw_row (T : List Fn) (f : Nat) : Prop := MuT T f = [true, false] ∧ ∀ (m : Nat) (k : Int) (p : PyData) (n : Nat), Pen k p → k < 900000 → 1 ≤ n → n ≤ 100 → Wc (run T (m + 4)) f [(true, p), (false, .int n)] fun r fin => ∃ (row : List Int × Bool) (p' : PyData), r = (false, srowD row) ∧ fin = [p'] ∧ RowOk n B0 row ∧ Pen (k + 2 * n + 4) p'
theorem law_draw_row_S {T : List Fn} {f c1 c2 : Nat} (h : T[f]? = some (fn_law_draw_row c1 c2)) (hO : S_one_of T c1) (hT : S_take T c2) : S_draw_row T f := by
  refine ⟨MuT_of h, fun m k p n hp hk hn0 hn => ?_⟩
  refine Wc_of h rfl ?_
  walk_at "mr"
  rw [rngL_ty]
  refine Wk_st (β := Int) PyData.int (fun b zs ρ => ∃ (q : PyData) (o2 o3 : Option (Bool × PyData)), ρ = [some (true, q), some (false, .int n), o2, o3] ∧ (∀ z ∈ zs, -B0 < z ∧ z < B0) ∧ Pen (k + 2 * b.length) q) ⟨p, none, none, rfl, (fun w hw => by cases hw), hp.mono (by simp)⟩ (by rw [List.length_range]; omega) ?_ ?_
  · rintro b x r zs _ e hbl ⟨q, o2, o3, rfl, hj, hq⟩
    have hb : b.length < n := by
      have := congrArg List.length e
      rw [List.length_range, List.length_append, List.length_cons] at this
      omega
    walk_at "mr"
    walk_at "tk"
    rename_i w q hw0 hw1 hq
    walk_at "oo"
    rename_i d q hd hq
    obtain ⟨z, rfl, hz⟩ : ∃ z : Int, d = .int z ∧ -100 < z ∧ z < 100 := by
      simp only [List.mem_cons, List.not_mem_nil, or_false] at hd
      rcases hd with rfl | rfl | rfl | rfl | rfl | rfl | rfl | rfl | rfl | rfl | rfl <;> exact ⟨_, rfl, by omega, by omega⟩
    refine ⟨z, rfl, q, _, _, rfl, fun i hi => ?_, hq.mono (by rw [List.length_append, List.length_singleton]; omega)⟩
    rcases List.mem_append.mp hi with hi | hi
    · exact hj i hi
    · rw [List.mem_singleton.mp hi]
      unfold B0
      omega
  · rintro zs _ hjl ⟨q, o2, o3, rfl, hj, hq⟩
    rw [List.length_range] at hjl hq
    walk_at "mr"
    walk_at "tk"
    rename_i w q hw0 hw1 hq
    refine kite_cut (fun ρ => ∃ (zs : List Int) (q : PyData) (o3 : Option (Bool × PyData)), ρ = [some (true, q), some (false, .int n), some (true, .list (zs.map .int)), o3] ∧ zs.length = n ∧ (∀ z ∈ zs, -B0 < z ∧ z < B0) ∧ Pen (k + 2 * n + 2) q) ?_ ?_
    · refine kite_d (fun h2 => ?_) (fun h2 => ?_)
      · walk_at "mr"
        walk_at "oo"
        rename_i d q hd hq
        obtain ⟨z, rfl, hz⟩ : ∃ z : Int, d = .int z ∧ -B0 < z ∧ z < B0 := by
          simp only [List.mem_cons, List.not_mem_nil, or_false] at hd
          rcases hd with rfl | rfl <;> exact ⟨_, rfl, by unfold B0; omega, by unfold B0; omega⟩
        walk_at "mr"
        rw [ixN_nat (by decide) (by omega)]
        walk_at "mr"
        refine ⟨zs.set 0 z, q, _, by rw [List.map_set], by simp only [List.length_set]; omega, fun y hy => ?_, hq.mono (by omega)⟩
        rcases List.mem_or_eq_of_mem_set hy with hy | rfl
        · exact hj y hy
        · exact hz
      · walk_at "mr"
        exact ⟨zs, _, _, rfl, by omega, hj, hq.mono (by omega)⟩
    · rintro _ ⟨zs, q, o3, rfl, hzl, hz, hq⟩
      walk_at "mr"
      walk_at "tk"
      rename_i w q hw0 hw1 hq
      refine kite_cut (fun ρ => ∃ (zs : List Int) (o3 : Option (Bool × PyData)), ρ = [some (true, q), some (false, .int n), some (true, .list (zs.map .int)), o3] ∧ zs.length = n ∧ (∀ z ∈ zs, -B0 < z ∧ z < B0)) ?_ ?_
      · refine kite_d (fun h2 => ?_) (fun h2 => ?_)
        · walk_at "mr"
          rw [Int.toNat_natCast, List.flatten_replicate_singleton]
          exact ⟨List.replicate n 0, _, by rw [List.map_replicate], List.length_replicate .., fun z hz => by
            rw [(List.mem_replicate.mp hz).2]
            unfold B0
            omega⟩
        · walk_at "mr"
          exact ⟨zs, _, rfl, hzl, hz⟩
      · rintro _ ⟨zs, o3, rfl, hzl, hz⟩
        walk_at "mr"
        walk_at "tk"
        rename_i w q hw0 hw1 hq
        exact ⟨(zs, decide (w = 0)), _, rfl, rfl, ⟨hzl, hz⟩, hq.mono (by omega)⟩
theorem rowB0 : B0 ≤ 201 * B0 := by decide
def S_with_point (T : List Fn) (f : Nat) : Prop := MuT T f = [true, false, false] ∧ ∀ (m : Nat) (k : Int) (p : PyData) (n : Nat) (rs : List (List Int × Bool)), Pen k p → k < 900000 → 1 ≤ n → n ≤ 100 → rs.length ≤ 100 → (∀ r ∈ rs, RowOk n B0 r) → Wc (run T (m + 4)) f [(true, p), (false, .int n), (false, sysD rs)] fun r fin => ∃ (ss : List (List Int × Bool)) (p' : PyData), r = (false, sysD ss) ∧ fin = [p'] ∧ ss.length = rs.length ∧ (∀ r ∈ ss, RowOk n B0 r) ∧ Pen (k + n) p'
theorem law_with_point_S {T : List Fn} {f c1 c2 : Nat} (h : T[f]? = some (fn_law_with_point c1 c2)) (hT : S_take T c1) (hC : S_comes T c2) : S_with_point T f := by
  refine ⟨MuT_of h, fun m k p n rs hp hk hn0 hn hl hr => ?_⟩
  refine Wc_of h rfl ?_
  walk_at "mr"
  rw [rngL_ty]
  refine Wk_st (β := Int) PyData.int (fun b zs ρ => ∃ (q : PyData) (o9 : Option (Bool × PyData)), ρ = [some (true, q), some (false, .int n), some (false, sysD rs), none, none, none, none, none, none, o9, none] ∧ (∀ z ∈ zs, -4 < z ∧ z < 4) ∧ Pen (k + b.length) q) ⟨p, none, rfl, (fun w hw => by cases hw), hp.mono (by simp)⟩ (by rw [List.length_range]; omega) ?_ ?_
  · rintro b x r zs _ e hbl ⟨q, o9, rfl, hj, hq⟩
    have hb : b.length < n := by
      have := congrArg List.length e
      rw [List.length_range, List.length_append, List.length_cons] at this
      omega
    walk_at "mr"
    walk_at "tk"
    rename_i w q hw0 hw1 hq
    refine ⟨w - 3, rfl, q, _, rfl, fun i hi => ?_, hq.mono (by rw [List.length_append, List.length_singleton]; omega)⟩
    rcases List.mem_append.mp hi with hi | hi
    · exact hj i hi
    · rw [List.mem_singleton.mp hi]
      omega
  · rintro pt _ hjl ⟨q, o9, rfl, hj, hq⟩
    rw [List.length_range] at hjl hq
    walk_at "mr"
    rw [show sysD rs = .tuple (rs.map srowD) from rfl]
    walk_at "mr"
    refine Wf_preF rs (fun a ρ => ∃ (ss : List (List Int × Bool)) (o5 o6 o7 o8 o10 : Option (Bool × PyData)), ρ = [some (true, q), some (false, .int n), some (false, .tuple (rs.map srowD)), some (false, .tuple (pt.map .int)), some (true, .list (ss.map srowD)), o5, o6, o7, o8, none, o10] ∧ ss.length = a.length ∧ ∀ r ∈ ss, RowOk n B0 r) ⟨[], _, _, _, _, _, rfl, rfl, fun r hr => by cases hr⟩ ?_ ?_
    · rintro a x r _ e ⟨ss, o5, o6, o7, o8, o10, rfl, hsl, hss⟩
      have hxm : x ∈ rs := by rw [e]; simp
      have hx := hr x hxm
      have hal : a.length < rs.length := by rw [e]; simp
      obtain ⟨g, b⟩ := x
      have hgl : g.length = n := hx.1
      have hg : ∀ x ∈ g, -B0 < x ∧ x < B0 := hx.2
      have hneg : (g.map fun x => 0 - x).length = n ∧ ∀ x ∈ g.map (fun x => 0 - x), -B0 < x ∧ x < B0 := by
        refine ⟨by rw [List.length_map]; exact hgl, fun x hx => ?_⟩
        obtain ⟨y, hy, rfl⟩ := List.mem_map.mp hx
        have := hg y hy
        omega
      have put : ∀ g2 : List Int, (g2.length = n ∧ ∀ x ∈ g2, -B0 < x ∧ x < B0) → ∀ v : Bool, ∀ r ∈ ss ++ [(g2, v)], RowOk n B0 r := fun g2 h2 v r hr => by
        rcases List.mem_append.mp hr with hr | hr
        · exact hss r hr
        · rw [List.mem_singleton.mp hr]
          exact h2
      have pl : ∀ g2 : List Int, ∀ v : Bool, (ss ++ [(g2, v)]).length = (a ++ [(g, b)]).length := fun g2 v => by simp [hsl]
      rw [show srowD (g, b) = .tuple [.tuple (g.map .int), .bool b] from rfl]
      walk_at "mr"
      refine call_ok hC.1 (hC.2 _ (g, true) pt (by show g.length ≤ 1000; omega) (by show g.length = pt.length; omega) fun x hx z hz => mulOk_r (by have := hj z hz; omega) (by have := hj z hz; omega)) rfl rfl ?_
      rintro _ _ ⟨rfl, rfl⟩
      cases b
      all_goals
        walk_at "mr"
        refine kite_d (fun h2 => ?_) (fun h2 => ?_)
        · walk_at "mr"
          refine Wk_map1 (xs := g) (dat := PyData.int) (fun x => .int (0 - x)) (by omega) (fun x hx o => ?_) ?_
          · walk_at "mr"
            walk_at "en"
          walk_at "mr"
          refine ⟨ss ++ [(g.map fun x => 0 - x, _)], _, _, _, _, _, by rw [List.map_append, List.map_singleton, srowD, caseD, List.map_map] <;> rfl, pl _ _, put _ hneg _⟩
        · walk_at "mr"
          refine ⟨ss ++ [(g, _)], _, _, _, _, _, by rw [List.map_append, List.map_singleton, srowD, caseD], pl _ _, put _ hx _⟩
    · rintro _ ⟨ss, o5, o6, o7, o8, o10, rfl, hsl, hss⟩
      walk_at "mr"
      exact ⟨ss, q, rfl, rfl, hsl, hss, hq.mono (by omega)⟩
theorem mem_zipWith2 {F : Int → Int → Int} : ∀ {f g : List Int} {x : Int}, x ∈ List.zipWith F f g → ∃ a ∈ f, ∃ b ∈ g, x = F a b
  | [], g, x, h => by simp at h
  | a :: f, [], x, h => by simp at h
  | a :: f, b :: g, x, h => by
    rw [List.zipWith_cons_cons] at h
    rcases List.mem_cons.mp h with rfl | h
    · exact ⟨a, List.mem_cons_self .., b, List.mem_cons_self .., rfl⟩
    · obtain ⟨y, hy, z, hz, rfl⟩ := mem_zipWith2 h
      exact ⟨y, List.mem_cons_of_mem _ hy, z, List.mem_cons_of_mem _ hz, rfl⟩
theorem mtS_insN {xs : List PyData} {i : Nat} {x : PyData} (h1 : xs.length ≤ 1000) (h2 : i ≤ 1000) : mtS .insert (.list xs) [.int i, x] = some (.none, .list (xs.take i ++ x :: xs.drop i)) := by
  show (if _ then _ else _) = _
  rw [if_pos (by rw [szOk_of (by omega), decide_eq_true (by omega), decide_eq_true (by omega)]; rfl)]
  rfl
def S_with_weights (T : List Fn) (f : Nat) : Prop := MuT T f = [true, false, false] ∧ ∀ (m : Nat) (k : Int) (p : PyData) (n : Nat) (rs : List (List Int × Bool)), Pen k p → k < 900000 → 1 ≤ n → n ≤ 100 → rs.length ≤ 100 → (∀ r ∈ rs, RowOk n B0 r) → Wc (run T (m + 4)) f [(true, p), (false, .int n), (false, sysD rs)] fun r fin => ∃ (ss : List (List Int × Bool)) (p' : PyData), r = (false, sysD ss) ∧ fin = [p'] ∧ ss.length = rs.length + 1 ∧ (∀ r ∈ ss, RowOk n (201 * B0) r) ∧ Pen (k + rs.length + 1) p'
theorem law_with_weights_S {T : List Fn} {f c1 : Nat} (h : T[f]? = some (fn_law_with_weights c1)) (hT : S_take T c1) : S_with_weights T f := by
  refine ⟨MuT_of h, fun m k p n rs hp hk hn0 hn hl hr => ?_⟩
  refine Wc_of h rfl ?_
  rw [show sysD rs = .tuple (rs.map srowD) from rfl]
  walk_at "mr"
  rw [Int.toNat_natCast, List.flatten_replicate_singleton]
  refine Wf_preF rs (fun a ρ => ∃ (last : List Int) (q : PyData) (o4 o5 o7 o8 o9 : Option (Bool × PyData)), ρ = [some (true, q), some (false, .int n), some (false, .tuple (rs.map srowD)), some (false, .tuple (last.map .int)), o4, o5, none, o7, o8, o9] ∧ last.length = n ∧ (∀ x ∈ last, -(2 * a.length * B0) ≤ x ∧ x ≤ 2 * a.length * B0) ∧ Pen (k + a.length) q) ⟨List.replicate n 0, p, _, _, _, _, _, by rw [List.map_replicate], List.length_replicate .., fun x hx => by rw [(List.mem_replicate.mp hx).2]; simp, hp.mono (by simp)⟩ ?_ ?_
  · rintro a x r _ e ⟨last, q, o4, o5, o7, o8, o9, rfl, hll, hlb, hq⟩
    have hxm : x ∈ rs := by rw [e]; simp
    have hx := hr x hxm
    have hal : a.length < rs.length := by rw [e]; simp
    obtain ⟨g, b⟩ := x
    have hgl : g.length = n := hx.1
    have hg : ∀ x ∈ g, -B0 < x ∧ x < B0 := hx.2
    rw [show srowD (g, b) = .tuple [.tuple (g.map .int), .bool b] from rfl]
    walk_at "mr"
    walk_at "tk"
    rename_i w q hw0 hw1 hq
    refine Wk_pure2 (y2 fun a b => a - w * b) (fun y hy o o2 => ?_) ?_
    · obtain ⟨a, b, rfl, hm⟩ := zip_mem hy
      obtain ⟨h1, h2⟩ := List.of_mem_zip hm
      obtain ⟨x, hx, rfl⟩ := List.mem_map.mp h1
      obtain ⟨z, hz, rfl⟩ := List.mem_map.mp h2
      walk_at "mr"
      exact ⟨rfl, _, _, rfl⟩
    · rw [y2_zip]
      refine ⟨szOk_of (by rw [List.length_map, List.length_zipWith]; omega), ?_⟩
      walk_at "mr"
      refine ⟨_, q, _, _, _, _, _, rfl, by rw [List.length_zipWith]; omega, fun x hx => ?_, hq.mono (by rw [List.length_append, List.length_singleton]; omega)⟩
      obtain ⟨y, hy, z, hz, rfl⟩ := mem_zipWith2 hx
      have h1 := hlb y hy
      have h2 := hg z hz
      rw [List.length_append, List.length_singleton]
      unfold B0 at *
      obtain rfl | rfl | rfl : w = 0 ∨ w = 1 ∨ w = 2 := by omega
      · omega
      · omega
      · omega
  · rintro _ ⟨last, q, o4, o5, o7, o8, o9, rfl, hll, hlb, hq⟩
    walk_at "mr"
    walk_at "tk"
    rename_i i q hi0 hi1 hq
    obtain ⟨i, rfl⟩ := Int.eq_ofNat_of_zero_le hi0
    walk_at "mr"
    rw [mtS_insN (by rw [List.length_map]; omega) (by omega)]
    walk_at "mr"
    refine ⟨rs.take i ++ (last, true) :: rs.drop i, q, by rw [sysD, List.map_append, List.map_cons, List.map_take, List.map_drop]; rfl, rfl, by rw [List.length_append, List.length_cons, List.length_take, List.length_drop]; omega, fun r hr2 => ?_, hq.mono (by omega)⟩
    rcases List.mem_append.mp hr2 with h2 | h2
    · exact (hr r (List.mem_of_mem_take h2)).mono rowB0
    · rcases List.mem_cons.mp h2 with rfl | h2
      · refine ⟨hll, fun x hx => ?_⟩
        have := hlb x hx
        unfold B0 at *
        show -(201 * 100000000000000000001) < x ∧ x < 201 * 100000000000000000001
        omega
      · exact (hr r (List.mem_of_mem_drop h2)).mono rowB0
def S_draw_system (T : List Fn) (f : Nat) : Prop := MuT T f = [true, false, false] ∧ ∀ (m : Nat) (k : Int) (p : PyData) (w s : Nat), Pen k p → k < 800000 → 1 ≤ w → w ≤ 100 → s ≤ 99 → Wc (run T (m + 5)) f [(true, p), (false, .int w), (false, .int s)] fun r fin => ∃ (n : Nat) (rs : List (List Int × Bool)) (p' : PyData), r = (false, .tuple [.int n, sysD rs]) ∧ fin = [p'] ∧ 1 ≤ n ∧ n ≤ w ∧ rs.length ≤ s + 1 ∧ (∀ r ∈ rs, RowOk n (201 * B0) r) ∧ Pen (k + 21000) p'
theorem law_draw_system_S {T : List Fn} {f c1 c2 c3 c4 : Nat} (h : T[f]? = some (fn_law_draw_system c1 c2 c3 c4)) (hT : S_take T c1) (hR : S_draw_row T c2) (hP : S_with_point T c3) (hW : S_with_weights T c4) : S_draw_system T f := by
  refine ⟨MuT_of h, fun m k p w s hp hk hw0 hw hs => ?_⟩
  refine Wc_of h rfl ?_
  walk_at "mr"
  walk_at "tk"
  rename_i n p hn0 hn1 hp
  obtain ⟨n, rfl⟩ := Int.eq_ofNat_of_zero_le hn0
  rw [show (1 : Int) + (n : Int) = ((n + 1 : Nat) : Int) by omega]
  walk_at "tk"
  rename_i l p hl0 hl1 hp
  obtain ⟨l, rfl⟩ := Int.eq_ofNat_of_zero_le hl0
  rw [rngL_ty]
  refine Wk_st (β := List Int × Bool) srowD (fun b rs ρ => ∃ (q : PyData) (o6 : Option (Bool × PyData)), ρ = [some (true, q), some (false, .int w), some (false, .int s), some (false, .int ((n + 1 : Nat) : Int)), none, none, o6] ∧ (∀ r ∈ rs, RowOk (n + 1) B0 r) ∧ Pen (k + 2 + 204 * b.length) q) ⟨p, none, rfl, (fun w hw => by cases hw), hp.mono (by simp; omega)⟩ (by rw [List.length_range]; omega) ?_ ?_
  · rintro b x r rs _ e hbl ⟨q, o6, rfl, hj, hq⟩
    have hb : b.length < l := by
      have := congrArg List.length e
      rw [List.length_range, List.length_append, List.length_cons] at this
      omega
    walk_at "mr"
    refine call_ok hR.1 (hR.2 _ _ q (n + 1) hq (by omega) (by omega) (by omega)) rfl rfl ?_
    rintro _ _ ⟨row, q, rfl, rfl, hrow, hq⟩
    walk_at "mr"
    refine ⟨row, rfl, q, _, rfl, fun i hi => ?_, hq.mono (by rw [List.length_append, List.length_singleton]; omega)⟩
    rcases List.mem_append.mp hi with hi | hi
    · exact hj i hi
    · rw [List.mem_singleton.mp hi]
      exact hrow
  · rintro rs _ hjl ⟨q, o6, rfl, hj, hq⟩
    rw [List.length_range] at hjl hq
    have hw2 : ∀ r ∈ rs, RowOk (n + 1) (201 * B0) r := fun r hr => (hj r hr).mono rowB0
    walk_at "mr"
    walk_at "tk"
    rename_i v q hv0 hv1 hq
    refine kite_d (fun h2 => ?_) (fun h2 => ?_)
    · walk_at "mr"
      refine call_ok hP.1 (hP.2 _ _ q (n + 1) rs hq (by omega) (by omega) (by omega) (by omega) hj) rfl rfl ?_
      rintro _ _ ⟨ss, q, rfl, rfl, hsl, hss, hq⟩
      walk_at "mr"
      exact ⟨n + 1, ss, q, rfl, rfl, by omega, by omega, by omega, fun r hr => (hss r hr).mono rowB0, hq.mono (by omega)⟩
    · walk_at "mr"
      refine kite_d (fun h2 => ?_) (fun h2 => ?_)
      · walk_at "mr"
        refine call_ok hW.1 (hW.2 _ _ q (n + 1) rs hq (by omega) (by omega) (by omega) (by omega) hj) rfl rfl ?_
        rintro _ _ ⟨ss, q, rfl, rfl, hsl, hss, hq⟩
        walk_at "mr"
        exact ⟨n + 1, ss, q, rfl, rfl, by omega, by omega, by omega, hss, hq.mono (by omega)⟩
      · walk_at "mr"
        exact ⟨n + 1, rs, q, rfl, rfl, by omega, by omega, by omega, hw2, hq.mono (by omega)⟩

def fn_law_k06 (c__law_open c__law_draw_system c__law_draw_row c__law_one_of c__law_bent c__law_odd c__law_same c_is_system c__law_is_system c__law_take c_comes_to c__law_comes : Nat) : Fn := ⟨"law", [false], 17,
  (.cons (.asg (.var 1) (.call c__law_open (.cons (.var 0) .nil)))
  (.cons (.for (.var 2) (.rng (.cons (.cst (.int 3)) .nil))
    (.cons (.asg (.tup (.cons (.var 3) (.cons (.var 4) .nil))) (.call c__law_draw_system (.cons (.var 1) (.cons (.cst (.int 8)) (.cons (.cst (.int 8)) .nil)))))
    (.cons (.asg (.var 5) (.call c__law_draw_row (.cons (.var 1) (.cons (.var 3) .nil))))
    (.cons (.asg (.var 6) (.op .lst (.cons (.op .tup (.cons (.op .idx (.cons (.var 5) (.cons (.cst (.int 0)) .nil))) (.cons (.cst (.int 1)) .nil))) (.cons (.op .tup (.cons (.op .idx (.cons (.var 5) (.cons (.cst (.int 0)) .nil))) (.cons (.cst .non) .nil))) (.cons (.op .tup (.cons (.op .list (.cons (.op .idx (.cons (.var 5) (.cons (.cst (.int 0)) .nil))) .nil)) (.cons (.op .idx (.cons (.var 5) (.cons (.cst (.int 1)) .nil))) .nil))) (.cons (.op .idx (.cons (.var 5) (.cons (.cst (.int 0)) .nil))) (.cons (.op (.bin .add) (.cons (.var 5) (.cons (.op .tup (.cons (.cst (.bl true)) .nil)) .nil))) (.cons (.op .lst (.cons (.op .idx (.cons (.var 5) (.cons (.cst (.int 0)) .nil))) (.cons (.op .idx (.cons (.var 5) (.cons (.cst (.int 1)) .nil))) .nil))) .nil))))))))
    (.cons (.asg (.var 7) (.call c__law_one_of (.cons (.var 1) (.cons (.var 6) .nil))))
    (.cons (.asg (.var 8) (.op .tup (.cons (.op .tuple (.cons (.comp [14] (.ite (.op (.cmp .isin) (.cons (.var 14) (.cons (.op .lst (.cons (.cst (.int 0)) (.cons (.cst (.int 1)) .nil))) .nil))) (.op (.cmp .eq) (.cons (.var 14) (.cons (.cst (.int 1)) .nil))) (.var 14)) (.last (.var 14) (.val (.op .idx (.cons (.var 5) (.cons (.cst (.int 0)) .nil)))) .nil)) .nil)) (.cons (.op .idx (.cons (.var 5) (.cons (.cst (.int 1)) .nil))) .nil))))
    (.cons (.asg (.var 9) (.op .lst (.cons (.var 4) (.cons (.op (.bin .add) (.cons (.var 4) (.cons (.op .tup (.cons (.var 5) .nil)) .nil))) (.cons (.op (.bin .add) (.cons (.var 4) (.cons (.op .tup (.cons (.var 7) .nil)) .nil))) (.cons (.op (.bin .add) (.cons (.op .tup (.cons (.var 7) .nil)) (.cons (.var 4) .nil))) (.cons (.op (.bin .add) (.cons (.var 4) (.cons (.op .tup (.cons (.var 8) .nil)) .nil))) (.cons (.op .list (.cons (.var 4) .nil)) (.cons (.op .tup .nil) (.cons (.var 5) .nil))))))))))
    (.cons (.asg (.var 9) (.op (.bin .add) (.cons (.var 9) (.cons (.op .lst (.cons (.op (.bin .mul) (.cons (.op .tup (.cons (.var 5) .nil)) (.cons (.call c__law_one_of (.cons (.var 1) (.cons (.op .lst (.cons (.cst (.int 24)) (.cons (.cst (.int 25)) .nil))) .nil))) .nil))) (.cons (.op (.bin .mul) (.cons (.op .tup (.cons (.var 5) .nil)) (.cons (.cst (.int 24)) .nil))) .nil))) .nil))))
    (.cons (.asg (.var 9) (.op (.bin .add) (.cons (.var 9) (.cons (.op .lst (.cons (.op .tup (.cons (.op .tup (.cons (.op (.bin .add) (.cons (.op .idx (.cons (.var 5) (.cons (.cst (.int 0)) .nil))) (.cons (.op .tup (.cons (.cst (.int 0)) .nil)) .nil))) (.cons (.cst (.bl true)) .nil))) .nil)) (.cons (.op .tup (.cons (.op .tup (.cons (.slice (.op .idx (.cons (.var 5) (.cons (.cst (.int 0)) .nil))) (.cons (.cst (.int 1)) .nil) .nil none) (.cons (.cst (.bl true)) .nil))) .nil)) .nil))) .nil))))
    (.cons (.for (.var 10) (.val (.op (.bin .add) (.cons (.op (.bin .add) (.cons (.var 9) (.cons (.comp [15] (.call c__law_bent (.cons (.var 1) (.cons (.var 4) .nil))) (.last (.var 15) (.rng (.cons (.cst (.int 4)) .nil)) .nil)) .nil))) (.cons (.op .lst (.cons (.call c__law_odd (.cons (.var 1) .nil)) .nil)) .nil))))
      (.cons (.asg (.var 12) (.op .repr (.cons (.var 10) .nil)))
      (.cons (.ite (.or (.cons (.op .not (.cons (.call c__law_same (.cons (.call c_is_system (.cons (.var 3) (.cons (.var 10) .nil))) (.cons (.call c__law_is_system (.cons (.var 3) (.cons (.var 10) .nil))) .nil))) .nil)) (.cons (.op (.cmp .ne) (.cons (.op .repr (.cons (.var 10) .nil)) (.cons (.var 12) .nil))) .nil)))
        (.cons (.ret (.cst (.bl false)))
        .nil)
        .nil)
      .nil)))
    (.cons (.for (.var 11) (.val (.op (.bin .add) (.cons (.var 4) (.cons (.op .tup (.cons (.var 5) .nil)) .nil))))
      (.cons (.asg (.var 13) (.op .tuple (.cons (.comp [16] (.call c__law_one_of (.cons (.var 1) (.cons (.op .lst (.cons (.cst (.int 0)) (.cons (.cst (.int 1)) (.cons (.op .neg (.cons (.cst (.int 1)) .nil)) (.cons (.call c__law_take (.cons (.var 1) (.cons (.cst (.int 99)) .nil))) (.cons (.op (.bin .pow) (.cons (.cst (.int 10)) (.cons (.cst (.int 20)) .nil))) .nil)))))) .nil))) (.last (.var 16) (.rng (.cons (.var 3) .nil)) .nil)) .nil)))
      (.cons (.ite (.op .not (.cons (.call c__law_same (.cons (.call c_comes_to (.cons (.var 11) (.cons (.var 13) .nil))) (.cons (.call c__law_comes (.cons (.var 11) (.cons (.var 13) .nil))) .nil))) .nil))
        (.cons (.ret (.cst (.bl false)))
        .nil)
        .nil)
      .nil)))
    .nil)))))))))))
  (.cons (.ret (.cst (.bl true)))
  .nil)))⟩
/-! ### systems recognized -/
def BB : Int := 100000000000000000000000000000000000000000
theorem srow_bd {n : Nat} {b : Int} {r : List Int × Bool} (h : RowOk n b r) (hn : n ≤ 8) : Bd b 11 (srowD r) ∧ dp (srowD r) ≤ 3 := by
  obtain ⟨g, v⟩ := r
  obtain ⟨h1, h2⟩ := h
  have h1 : g.length = n := h1
  have h3 : ∀ x ∈ g.map PyData.int, Bd b 1 x := fun x hx => by
    obtain ⟨z, hz, rfl⟩ := List.mem_map.mp hx
    exact Bd_int (h2 z hz).1 (h2 z hz).2
  have h4 : Bd b 9 (caseD g) := Bd_flatT h3 (by rw [List.length_map]; omega)
  refine ⟨Bd_tuple (xs := [caseD g, .bool v]) (fun x hx => ?_) ?_, ?_⟩
  · rcases List.mem_cons.mp hx with rfl | hx
    · exact h4.1
    · rw [List.mem_singleton.mp hx]
      exact Bd_bool.1
  · rw [szAll, szAll, szAll, sz]
    have := h4.2
    omega
  · have h5 : dp (caseD g) ≤ 2 := by
      rw [caseD, dp]
      have : dpAll (g.map PyData.int) ≤ 1 := dpAll_le.mpr fun x hx => by
        obtain ⟨z, hz, rfl⟩ := List.mem_map.mp hx
        rw [dp] <;> simp
      omega
    show dp (.tuple [caseD g, .bool v]) ≤ 3
    rw [dp, dpAll, dpAll, dpAll]
    have : dp (.bool v) ≤ 1 := by rw [dp] <;> simp
    omega
theorem eqv_int6 (a b : Int) : (PyData.int a).eqv (.int b) = decide (a = b) := by
  have := eqv_ints [a] [b]
  simp only [List.map_cons, List.map_nil, PyData.eqv, PyData.eqvAll, Bool.and_true] at this
  rw [PyData.eqv]
  simpa using this
/-- a datum that stands where a row does -/
def Vr (x : PyData) : Prop := Bd BB 19 x ∧ dp x ≤ 10
def Vk (x : PyData) : Prop := Bd BB 500 x ∧ dp x ≤ 20
theorem Vr.k {x : PyData} (h : Vr x) : Vk x := ⟨h.1.mono (Int.le_refl _) (by omega), by have := h.2; omega⟩
theorem Vk_tup {xs : List PyData} (h : ∀ x ∈ xs, Vr x) (hl : xs.length ≤ 25) : Vk (.tuple xs) := ⟨Bd_rowsT (fun x hx => (h x hx).1) (by omega), by
  rw [dp]
  have := dpAll_le.mpr fun x hx => (h x hx).2
  omega⟩
theorem Vk_lst {xs : List PyData} (h : ∀ x ∈ xs, Vr x) (hl : xs.length ≤ 25) : Vk (.list xs) := ⟨Bd_rowsL (fun x hx => (h x hx).1) (by omega), by
  rw [dp]
  have := dpAll_le.mpr fun x hx => (h x hx).2
  omega⟩
/-- a leaf -/
def Vl (x : PyData) : Prop := Bd BB 1 x ∧ dp x ≤ 1
theorem Vr_flT {xs : List PyData} (h : ∀ x ∈ xs, Vl x) (hl : xs.length ≤ 9) : Bd BB 10 (.tuple xs) ∧ dp (.tuple xs) ≤ 2 := ⟨Bd_flatT (fun x hx => (h x hx).1) (by omega), by
  rw [dp]
  have := dpAll_le.mpr fun x hx => (h x hx).2
  omega⟩
theorem Vr_flL {xs : List PyData} (h : ∀ x ∈ xs, Vl x) (hl : xs.length ≤ 9) : Bd BB 10 (.list xs) ∧ dp (.list xs) ≤ 2 := ⟨Bd_flatL (fun x hx => (h x hx).1) (by omega), by
  rw [dp]
  have := dpAll_le.mpr fun x hx => (h x hx).2
  omega⟩
theorem Vl_int {i : Int} (h : -BB < i ∧ i < BB) : Vl (.int i) := ⟨Bd_int h.1 h.2, by rw [dp] <;> simp⟩
theorem Vl_bool {v : Bool} : Vl (.bool v) := ⟨Bd_bool, by rw [dp] <;> simp⟩
theorem Vl_none : Vl .none := ⟨Bd_none, by rw [dp] <;> simp⟩
theorem Vr_two {a b : PyData} (h : Bd BB 10 a ∧ dp a ≤ 2) (h2 : Vl b) : Vr (.tuple [a, b]) := by
  refine ⟨Bd_tuple (fun x hx => ?_) ?_, ?_⟩
  · rcases List.mem_cons.mp hx with rfl | hx
    · exact h.1.1
    · rw [List.mem_singleton.mp hx]
      exact h2.1.1
  · rw [szAll, szAll, szAll]
    have := h.1.2
    have := h2.1.2
    omega
  · rw [dp, dpAll, dpAll, dpAll]
    have := h.2
    have := h2.2
    omega
theorem Vr_twoL {a b : PyData} (h : Bd BB 10 a ∧ dp a ≤ 2) (h2 : Vl b) : Vr (.list [a, b]) := by
  refine ⟨Bd_list (fun x hx => ?_) ?_, ?_⟩
  · rcases List.mem_cons.mp hx with rfl | hx
    · exact h.1.1
    · rw [List.mem_singleton.mp hx]
      exact h2.1.1
  · rw [szAll, szAll, szAll]
    have := h.1.2
    have := h2.1.2
    omega
  · rw [dp, dpAll, dpAll, dpAll]
    have := h.2
    have := h2.2
    omega
theorem Vr_three {a b c : PyData} (h : Bd BB 10 a ∧ dp a ≤ 2) (h2 : Vl b) (h3 : Vl c) : Vr (.tuple [a, b, c]) := by
  refine ⟨Bd_tuple (fun x hx => ?_) ?_, ?_⟩
  · rcases List.mem_cons.mp hx with rfl | hx
    · exact h.1.1
    · rcases List.mem_cons.mp hx with rfl | hx
      · exact h2.1.1
      · rw [List.mem_singleton.mp hx]
        exact h3.1.1
  · rw [szAll, szAll, szAll, szAll]
    have := h.1.2
    have := h2.1.2
    have := h3.1.2
    omega
  · rw [dp, dpAll, dpAll, dpAll, dpAll]
    have := h.2
    have := h2.2
    have := h3.2
    omega
theorem law_k06_ok {T : List Fn} {f c1 c2 c3 c4 c5 c6 c7 c8 c9 c10 c11 c12 : Nat} (h : T[f]? = some (fn_law_k06 c1 c2 c3 c4 c5 c6 c7 c8 c9 c10 c11 c12)) (hO : S_open T c1) (hY : S_draw_system T c2) (hR : S_draw_row T c3) (hN : S_one_of T c4) (hB : S_bentB T c5) (hD : S_odd T c6) (hS : S_same T c7) (hI : S_is_system T c8) (hI2 : S_is_system T c9) (hT : S_take T c10) (hC : S_comes T c11) (hC2 : S_comes T c12)
    (n : Nat) (ns : List Int) (hn : ns.length ≤ 63) : Wc (run T (n + 40)) f [(false, .list (ns.map .int))] fun r fin => r = (false, .bool true) := by
  refine Wc_of h rfl ?_
  walk_at "mr"
  refine call_ok hO.1 (hO.2 _ _ hn) rfl rfl ?_
  rintro _ _ ⟨p, rfl, rfl, hp⟩
  walk_at "mr"
  generalize PyData.list (ns.map .int) = sc
  refine Wf_rngF (fun i ρ => ∃ p L, ρ = some (false, sc) :: some (true, p) :: L ∧ L.length = 15 ∧ Pen (30000 * i) p) ⟨p, _, rfl, rfl, hp.mono (by simp)⟩ ?_ ?_
  · rintro i _ hi ⟨p, L, rfl, hL0, hp⟩
    match L, hL0 with
    | [o2, o3, o4, o5, o6, o7, o8, o9, o10, o11, o12, o13, o14, o15, o16], _ =>
    walk_at "mr"
    refine call_ok hY.1 (hY.2 _ _ p 8 8 hp (by omega) (by omega) (by omega) (by omega)) rfl rfl ?_
    rintro _ _ ⟨w, rs, p, rfl, rfl, hw0, hw1, hrl, hrs, hp⟩
    walk_at "mr"
    refine call_ok hR.1 (hR.2 _ _ p w hp (by omega) (by omega) (by omega)) rfl rfl ?_
    rintro _ _ ⟨⟨g, v⟩, p, rfl, rfl, hrow, hp⟩
    have hgl : g.length = w := hrow.1
    have hg : ∀ x ∈ g, -B0 < x ∧ x < B0 := hrow.2
    rw [show srowD (g, v) = .tuple [.tuple (g.map .int), .bool v] from rfl, show sysD rs = .tuple (rs.map srowD) from rfl]
    walk_at "mr"
    walk_at "oo"
    rename_i oh p hoh hp
    have hgl' : ∀ x ∈ g.map PyData.int, Vl x := fun x hx => by
      obtain ⟨z, hz, rfl⟩ := List.mem_map.mp hx
      have := hg z hz
      unfold B0 at this
      exact Vl_int (by unfold BB; omega)
    have hgT := Vr_flT hgl' (by rw [List.length_map]; omega)
    have hgL := Vr_flL hgl' (by rw [List.length_map]; omega)
    have hoh' : Vr oh := by
      simp only [List.mem_cons, List.not_mem_nil, or_false] at hoh
      rcases hoh with rfl | rfl | rfl | rfl | rfl | rfl
      · exact Vr_two hgT (Vl_int (by decide))
      · exact Vr_two hgT Vl_none
      · exact Vr_two hgL Vl_bool
      · exact ⟨hgT.1.mono (Int.le_refl _) (by omega), by have := hgT.2; omega⟩
      · exact Vr_three hgT Vl_bool Vl_bool
      · exact Vr_twoL hgT Vl_bool
    clear hoh
    refine Wk_map1 (xs := g) (dat := PyData.int) (fun x => if x = 0 then .bool false else if x = 1 then .bool true else .int x) (by omega) (fun x hx o => ?_) ?_
    · walk_at "mr"
      rw [eqv_int6, eqv_int6]
      refine ⟨rfl, ?_⟩
      obtain rfl | h0 := Classical.em (x = 0)
      · walk_at "mr"
        walk_at "en"
      · obtain rfl | h1 := Classical.em (x = 1)
        · walk_at "mr"
          walk_at "en"
        · rw [decide_eq_false (fun h => h0 h.symm), decide_eq_false (fun h => h1 h.symm), if_neg h0, if_neg h1]
          walk_at "mr"
          walk_at "en"
    walk_at "mr"
    walk_at "oo"
    rename_i d p hd hp
    obtain ⟨c, rfl, hc⟩ : ∃ c : Nat, d = .int c ∧ c ≤ 25 := by
      simp only [List.mem_cons, List.not_mem_nil, or_false] at hd
      rcases hd with rfl | rfl
      · exact ⟨24, rfl, by omega⟩
      · exact ⟨25, rfl, by omega⟩
    clear hd
    walk_at "mr"
    refine ⟨by decide, szOk_of (by omega), by decide, ?_⟩
    have hrw : Vr (.tuple [.tuple (g.map .int), .bool v]) := Vr_two hgT Vl_bool
    have hbe : Vr (.tuple [.tuple (g.map fun x => if x = 0 then PyData.bool false else if x = 1 then PyData.bool true else PyData.int x), .bool v]) := Vr_two (Vr_flT (fun x hx => by
      obtain ⟨z, hz, rfl⟩ := List.mem_map.mp hx
      have := hg z hz
      unfold B0 at this
      split
      · exact Vl_bool
      · split
        · exact Vl_bool
        · exact Vl_int (by unfold BB; omega)) (by rw [List.length_map]; omega)) Vl_bool
    have hrs' : ∀ x ∈ rs.map srowD, Vr x := fun x hx => by
      obtain ⟨r, hr, rfl⟩ := List.mem_map.mp hx
      have := srow_bd (hrs r hr) (by omega)
      exact ⟨this.1.mono (by decide) (by omega), by omega⟩
    have one : ∀ x, Vr x → ∀ y ∈ rs.map srowD ++ [x], Vr y := fun x hx y hy => by
      rcases List.mem_append.mp hy with hy | hy
      · exact hrs' y hy
      · rw [List.mem_singleton.mp hy]
        exact hx
    have many : ∀ k : Nat, k ≤ 25 → Vk (.tuple (List.replicate k [PyData.tuple [.tuple (g.map .int), .bool v]]).flatten) := fun k hk => by
      rw [List.flatten_replicate_singleton]
      exact Vk_tup (fun x hx => by rw [(List.mem_replicate.mp hx).2]; exact hrw) (by rw [List.length_replicate]; exact hk)
    have hrl' : (rs.map srowD).length ≤ 9 := by rw [List.length_map]; omega
    have hvs : ∀ x ∈ [PyData.tuple (rs.map srowD), .tuple (rs.map srowD ++ [.tuple [.tuple (g.map .int), .bool v]]), .tuple (rs.map srowD ++ [oh]), .tuple (oh :: rs.map srowD), .tuple (rs.map srowD ++ [.tuple [.tuple (g.map fun x => if x = 0 then PyData.bool false else if x = 1 then PyData.bool true else PyData.int x), .bool v]]), .list (rs.map srowD), .tuple [], .tuple [.tuple (g.map .int), .bool v], .tuple (List.replicate ((c : Nat) : Int).toNat [PyData.tuple [.tuple (g.map .int), .bool v]]).flatten, .tuple (List.replicate 24 [PyData.tuple [.tuple (g.map .int), .bool v]]).flatten, .tuple [.tuple [.tuple (g.map .int ++ [.int 0]), .bool true]], .tuple [.tuple [.tuple (sliced (g.map PyData.int) (some 1) none), .bool true]]], Vk x := fun x hx => by
      simp only [List.mem_cons, List.not_mem_nil, or_false] at hx
      rcases hx with rfl | rfl | rfl | rfl | rfl | rfl | rfl | rfl | rfl | rfl | rfl | rfl
      · exact Vk_tup hrs' (by omega)
      · exact Vk_tup (one _ hrw) (by rw [List.length_append, List.length_singleton]; omega)
      · exact Vk_tup (one _ hoh') (by rw [List.length_append, List.length_singleton]; omega)
      · exact Vk_tup (fun x hx => by
          rcases List.mem_cons.mp hx with rfl | hx
          · exact hoh'
          · exact hrs' x hx) (by rw [List.length_cons]; omega)
      · exact Vk_tup (one _ hbe) (by rw [List.length_append, List.length_singleton]; omega)
      · exact Vk_lst hrs' (by omega)
      · exact Vk_tup (xs := []) (fun x hx => by cases hx) (by simp)
      · exact hrw.k
      · exact many _ (by omega)
      · exact many _ (by omega)
      · exact Vk_tup (fun x hx => by
          rw [List.mem_singleton.mp hx]
          refine Vr_two (Vr_flT (fun x hx => ?_) (by rw [List.length_append, List.length_map, List.length_singleton]; omega)) Vl_bool
          rcases List.mem_append.mp hx with hx | hx
          · exact hgl' x hx
          · rw [List.mem_singleton.mp hx]
            exact Vl_int (by decide)) (by simp)
      · exact Vk_tup (fun x hx => by
          rw [List.mem_singleton.mp hx]
          have es : sliced (g.map PyData.int) (some 1) none = (g.map PyData.int).drop 1 := sliced_from 1
          rw [es]
          exact Vr_two (Vr_flT (fun x hx => hgl' x (List.mem_of_mem_drop hx)) (by rw [List.length_drop, List.length_map]; omega)) Vl_bool) (by simp)
    have hvl : [PyData.tuple (rs.map srowD), .tuple (rs.map srowD ++ [.tuple [.tuple (g.map .int), .bool v]]), .tuple (rs.map srowD ++ [oh]), .tuple (oh :: rs.map srowD), .tuple (rs.map srowD ++ [.tuple [.tuple (g.map fun x => if x = 0 then PyData.bool false else if x = 1 then PyData.bool true else PyData.int x), .bool v]]), .list (rs.map srowD), .tuple [], .tuple [.tuple (g.map .int), .bool v], .tuple (List.replicate ((c : Nat) : Int).toNat [PyData.tuple [.tuple (g.map .int), .bool v]]).flatten, .tuple (List.replicate 24 [PyData.tuple [.tuple (g.map .int), .bool v]]).flatten, .tuple [.tuple [.tuple (g.map .int ++ [.int 0]), .bool true]], .tuple [.tuple [.tuple (sliced (g.map PyData.int) (some 1) none), .bool true]]].length = 12 := rfl
    generalize [PyData.tuple (rs.map srowD), .tuple (rs.map srowD ++ [.tuple [.tuple (g.map .int), .bool v]]), .tuple (rs.map srowD ++ [oh]), .tuple (oh :: rs.map srowD), .tuple (rs.map srowD ++ [.tuple [.tuple (g.map fun x => if x = 0 then PyData.bool false else if x = 1 then PyData.bool true else PyData.int x), .bool v]]), .list (rs.map srowD), .tuple [], .tuple [.tuple (g.map .int), .bool v], .tuple (List.replicate ((c : Nat) : Int).toNat [PyData.tuple [.tuple (g.map .int), .bool v]]).flatten, .tuple (List.replicate 24 [PyData.tuple [.tuple (g.map .int), .bool v]]).flatten, .tuple [.tuple [.tuple (g.map .int ++ [.int 0]), .bool true]], .tuple [.tuple [.tuple (sliced (g.map PyData.int) (some 1) none), .bool true]]] = vs at hvs hvl ⊢
    have hsysB : Bd (201 * B0) 100 (.tuple (rs.map srowD)) := Bd_rowsT (m := 11) (fun x hx => by
      obtain ⟨r, hr, rfl⟩ := List.mem_map.mp hx
      exact (srow_bd (hrs r hr) (by omega)).1) (by rw [List.length_map]; omega)
    have hsysD : dp (.tuple (rs.map srowD)) ≤ 4 := by
      rw [dp]
      have : dpAll (rs.map srowD) ≤ 3 := dpAll_le.mpr fun x hx => by
        obtain ⟨r, hr, rfl⟩ := List.mem_map.mp hx
        exact (srow_bd (hrs r hr) (by omega)).2
      omega
    rw [show rngL 0 4 = (List.range 4).map natD from rngL_ty 4]
    refine Wk_st (β := PyData) id (fun b es ρ => ∃ (q : PyData) (o6 o7 o8 o15 : Option (Bool × PyData)), ρ = [some (false, sc), some (true, q), some (false, .int i), some (false, .int w), some (false, .tuple (rs.map srowD)), some (false, .tuple [.tuple (g.map .int), .bool v]), o6, o7, o8, some (true, .list vs), o10, o11, o12, o13, o14, o15, o16] ∧ (∀ d ∈ es, Vk d) ∧ Pen (30000 * i + 21030 + 24 * b.length) q) ⟨p, _, _, _, none, rfl, (fun r hr => by cases hr), hp.mono (by simp only [List.length_nil]; omega)⟩ (by rw [List.length_range]; omega) ?_ ?_
    · rintro b x r es _ e hbl ⟨q, o6, o7, o8, o15, rfl, hes, hq⟩
      have hb : b.length < 4 := by
        have := congrArg List.length e
        rw [List.length_range, List.length_append, List.length_cons] at this
        omega
      walk_at "mr"
      refine call_ok hB.1 (hB.2 4 100 (n + 30) _ q (201 * B0) (.tuple (rs.map srowD)) hq (by omega) (by decide) (by decide) (by omega) hsysB hsysD) rfl rfl ?_
      rintro _ _ ⟨ob, d', q', rfl, rfl, hd', hq⟩
      cases ob
      all_goals
        walk_at "mr"
        refine ⟨d', rfl, q', _, _, _, _, rfl, fun d hd => ?_, hq.mono (by rw [List.length_append, List.length_singleton]; omega)⟩
        rcases List.mem_append.mp hd with hd | hd
        · exact hes d hd
        · rw [List.mem_singleton.mp hd]
          exact ⟨hd'.1.mono (by decide) (by omega), by have := hd'.2; omega⟩
    · rintro es _ hel ⟨q, o6, o7, o8, o15, rfl, hes, hp⟩
      rw [List.length_range] at hel hp
      walk_at "mr"
      rw [List.map_id]
      refine call_ok hD.1 (hD.2 _ _ q hp (by omega)) rfl rfl ?_
      rintro _ _ ⟨d1, q, rfl, rfl, hd1, hp⟩
      walk_at "mr"
      have hall : ∀ d ∈ vs ++ es ++ [d1], Vk d := fun d hd => by
        rcases List.mem_append.mp hd with hd | hd
        · rcases List.mem_append.mp hd with hd | hd
          · exact hvs d hd
          · exact hes d hd
        · rw [List.mem_singleton.mp hd]
          exact ⟨hd1.mono (by decide) (by omega), by have := dp_sz d1; have := hd1.2; omega⟩
      have hul : (vs ++ es ++ [d1]).length ≤ 100 := by rw [List.length_append, List.length_append, List.length_singleton]; omega
      refine ⟨szOk_of (by rw [List.length_append]; omega), ?_⟩
      generalize vs ++ es ++ [d1] = us at hall hul ⊢
      refine Wf_as (List.map_id us).symm ?_
      refine Wf_preF us (fun a ρ => ∃ (o6 o7 o8 o9 o10 o11 o12 o13 o14 o15 o16 : Option (Bool × PyData)), ρ = [some (false, sc), some (true, q), some (false, .int i), some (false, .int w), some (false, .tuple (rs.map srowD)), some (false, .tuple [.tuple (g.map .int), .bool v]), o6, o7, o8, o9, o10, o11, o12, o13, o14, o15, o16]) ⟨_, _, _, _, _, _, _, _, _, _, _, rfl⟩ ?_ ?_
      · rintro a d r _ e ⟨o6, o7, o8, o9, o10, o11, o12, o13, o14, o15, o16, rfl⟩
        have hd := hall d (by rw [e]; simp)
        have hr := hd.1.okD (by decide) (by decide) (by have := hd.2; omega)
        have hsz : sz d ≤ 1000 := by have := hd.1.2; omega
        unfold id
        walk_at "mr"
        rw [hr]
        refine ⟨rfl, ?_⟩
        walk_at "mr"
        refine call_ok hI.1 (hI.2 _ w d hsz) rfl rfl ?_
        rintro _ _ ⟨rfl, rfl⟩
        walk_at "mr"
        refine call_ok hI2.1 (hI2.2 _ w d hsz) rfl rfl ?_
        rintro _ _ ⟨rfl, rfl⟩
        walk_at "mr"
        refine call_ok hS.1 (same_bool' hS _ _) rfl rfl ?_
        rintro _ _ ⟨rfl, rfl⟩
        walk_at "mr"
        rw [hr]
        refine ⟨rfl, ?_⟩
        walk_at "mr"
        exact ⟨_, _, _, _, _, _, _, _, _, _, _, rfl⟩
      · rintro _ ⟨o6, o7, o8, o9, o10, o11, o12, o13, o14, o15, o16, rfl⟩
        walk_at "mr"
        rw [show rs.map srowD ++ [PyData.tuple [.tuple (g.map .int), .bool v]] = (rs ++ [(g, v)]).map srowD by rw [List.map_append, List.map_singleton]; rfl]
        have hall2 : ∀ r ∈ rs ++ [(g, v)], RowOk w (201 * B0) r := fun r hr => by
          rcases List.mem_append.mp hr with hr | hr
          · exact hrs r hr
          · rw [List.mem_singleton.mp hr]
            exact hrow.mono rowB0
        have hall3 : (rs ++ [(g, v)]).length ≤ 10 := by rw [List.length_append, List.length_singleton]; omega
        generalize rs ++ [(g, v)] = ts at hall2 hall3 ⊢
        refine Wf_preF ts (fun a ρ => ∃ (q : PyData) (o4 o5 o6 o7 o8 o9 o10 o11 o12 o13 o14 o15 o16 : Option (Bool × PyData)), ρ = [some (false, sc), some (true, q), some (false, .int i), some (false, .int w), o4, o5, o6, o7, o8, o9, o10, o11, o12, o13, o14, o15, o16] ∧ Pen (30000 * i + 21130 + 16 * a.length) q) ⟨q, _, _, _, _, _, _, _, _, _, _, _, _, _, rfl, hp.mono (by simp only [List.length_nil]; omega)⟩ ?_ ?_
        · rintro a x r _ e ⟨q, o4, o5, o6, o7, o8, o9, o10, o11, o12, o13, o14, o15, o16, rfl, hq⟩
          have hx := hall2 x (by rw [e]; simp)
          have hal : a.length < ts.length := by rw [e]; simp
          walk_at "mr"
          rw [rngL_ty]
          refine Wk_st (β := Int) PyData.int (fun b zs ρ => ∃ (q : PyData) (o16 : Option (Bool × PyData)), ρ = [some (false, sc), some (true, q), some (false, .int i), some (false, .int w), o4, o5, o6, o7, o8, o9, o10, some (false, srowD x), o12, o13, o14, o15, o16] ∧ (∀ z ∈ zs, -2 < z ∧ z < B0) ∧ Pen (30000 * i + 21130 + 16 * a.length + 2 * b.length) q) ⟨q, none, rfl, (fun w hw => by cases hw), hq.mono (by simp)⟩ (by rw [List.length_range]; omega) ?_ ?_
          · rintro b y r zs _ e hbl ⟨q, o16, rfl, hj, hq⟩
            have hb : b.length < w := by
              have := congrArg List.length e
              rw [List.length_range, List.length_append, List.length_cons] at this
              omega
            walk_at "mr"
            walk_at "tk"
            rename_i z q hz0 hz1 hq
            walk_at "oo"
            rename_i d q hd hq
            obtain ⟨z, rfl, hz⟩ : ∃ z : Int, d = .int z ∧ -2 < z ∧ z < B0 := by
              simp only [List.mem_cons, List.not_mem_nil, or_false] at hd
              unfold B0
              rcases hd with rfl | rfl | rfl | rfl | rfl <;> exact ⟨_, rfl, by omega, by omega⟩
            refine ⟨z, rfl, q, _, rfl, fun i hi => ?_, hq.mono (by rw [List.length_append, List.length_singleton]; omega)⟩
            rcases List.mem_append.mp hi with hi | hi
            · exact hj i hi
            · rw [List.mem_singleton.mp hi]
              exact hz
          · rintro pt _ hjl ⟨q, o16, rfl, hj, hq⟩
            rw [List.length_range] at hjl hq
            walk_at "mr"
            have hx1 := hx.1
            have hm : ∀ y ∈ x.1, ∀ z ∈ pt, mulOk y z = true := fun y hy z hz => by
              have h1 := hx.2 y hy
              have h2 := hj z hz
              unfold B0 at h1 h2
              exact mulOk_big (by omega) (by omega) (by omega) (by omega)
            refine call_ok hC.1 (hC.2 _ x pt (by omega) (by omega) hm) rfl rfl ?_
            rintro _ _ ⟨rfl, rfl⟩
            walk_at "mr"
            refine call_ok hC2.1 (hC2.2 _ x pt (by omega) (by omega) hm) rfl rfl ?_
            rintro _ _ ⟨rfl, rfl⟩
            walk_at "mr"
            refine call_ok hS.1 (same_int hS _ _) rfl rfl ?_
            rintro _ _ ⟨rfl, rfl⟩
            walk_at "mr"
            exact ⟨q, _, _, _, _, _, _, _, _, _, _, _, _, _, rfl, hq.mono (by rw [List.length_append, List.length_singleton]; omega)⟩
        · rintro _ ⟨q, o4, o5, o6, o7, o8, o9, o10, o11, o12, o13, o14, o15, o16, rfl, hq⟩
          walk_at "mr"
          exact ⟨q, _, rfl, rfl, hq.mono (by omega)⟩
  · rintro _ ⟨p, L, rfl, hL0, hp⟩
    walk_at "mr"

end MP
namespace K06
open PySem MP
def F_is_integer : Fn := fn_is_integer
def F_is_row : Fn := fn_is_row 0
def F_is_system : Fn := fn_is_system 1
def F_comes_to : Fn := fn_comes_toY
def F__law_open : Fn := fnOpen
def F__law_spread : Fn := fnSpread
def F__law_take : Fn := fnTake 5
def F__law_same : Fn := fnSame 7
def F__law_one_of : Fn := fnOneOf 6
def F__law_odd : Fn := fn_odd04 8
def F__law_bent : Fn := fn_bent04 6 8 9 10
def F__law_comes : Fn := fn_law_comes
def F__law_is_whole : Fn := fn_law_is_whole
def F__law_draw_row : Fn := fn_law_draw_row 8 6
def F__law_with_point : Fn := fn_law_with_point 6 11
def F__law_with_weights : Fn := fn_law_with_weights 6
def F__law_draw_system : Fn := fn_law_draw_system 6 13 14 15
def F__law_is_system : Fn := fn_law_is_system 12
def F_law : Fn := fn_law_k06 4 16 13 8 10 9 7 2 17 6 3 11
def top (i : Nat) : Stmt := PySem.Challenge.pw_keybench_k06_systems_recognized.main.body.getD i (.Pass ⟨0, 0, 0, 0⟩)
def D_is_integer : Df := ⟨F_is_integer, "is_integer", top 1, ["value"], ["value"]⟩
def D_is_row : Df := ⟨F_is_row, "is_row", top 4, ["n", "value", "number"], ["n", "value"]⟩
def D_is_system : Df := ⟨F_is_system, "is_system", top 5, ["n", "value", "row"], ["n", "value"]⟩
def D_comes_to : Df := ⟨F_comes_to, "comes_to", top 6, ["row", "point", "number", "one"], ["row", "point"]⟩
def D__law_open : Df := ⟨F__law_open, "_law_open", top 8, ["_law_script", "_law_cells", "_law_k", "_law_cell"], ["_law_script"]⟩
def D__law_spread : Df := ⟨F__law_spread, "_law_spread", top 9, ["_law_cell", "_law_at", "_law_primes", "_law_one", "_law_two", "_law_three"], ["_law_cell", "_law_at"]⟩
def D__law_take : Df := ⟨F__law_take, "_law_take", top 10, ["_law_pen", "_law_amount", "_law_found", "_law_at", "_law_cell"], ["_law_pen", "_law_amount"]⟩
def D__law_same : Df := ⟨F__law_same, "_law_same", top 11, ["_law_found", "_law_due", "_law_one", "_law_other"], ["_law_found", "_law_due"]⟩
def D__law_one_of : Df := ⟨F__law_one_of, "_law_one_of", top 12, ["_law_pen", "_law_some"], ["_law_pen", "_law_some"]⟩
def D__law_odd : Df := ⟨F__law_odd, "_law_odd", top 13, ["_law_pen"], ["_law_pen"]⟩
def D__law_bent : Df := ⟨F__law_bent, "_law_bent", top 14, ["_law_pen", "_law_value", "_law_found", "_law_way", "_law_k"], ["_law_pen", "_law_value"]⟩
def D__law_comes : Df := ⟨F__law_comes, "_law_comes", top 15, ["_law_row", "_law_point", "_law_number", "_law_one"], ["_law_row", "_law_point"]⟩
def D__law_is_whole : Df := ⟨F__law_is_whole, "_law_is_whole", top 16, ["_law_value"], ["_law_value"]⟩
def D__law_draw_row : Df := ⟨F__law_draw_row, "_law_draw_row", top 17, ["_law_pen", "_law_n", "_law_some", "_law_k"], ["_law_pen", "_law_n"]⟩
def D__law_with_point : Df := ⟨F__law_with_point, "_law_with_point", top 18, ["_law_pen", "_law_n", "_law_system", "_law_point", "_law_found", "_law_numbers", "_law_is_strict", "_law_here", "_law_turned", "_law_k", "_law_number"], ["_law_pen", "_law_n", "_law_system"]⟩
def D__law_with_weights : Df := ⟨F__law_with_weights, "_law_with_weights", top 19, ["_law_pen", "_law_n", "_law_system", "_law_last", "_law_numbers", "_law_is_strict", "_law_found", "_law_factor", "_law_before", "_law_number"], ["_law_pen", "_law_n", "_law_system"]⟩
def D__law_draw_system : Df := ⟨F__law_draw_system, "_law_draw_system", top 20, ["_law_pen", "_law_widest", "_law_most", "_law_n", "_law_system", "_law_way", "_law_k"], ["_law_pen", "_law_widest", "_law_most"]⟩
def D__law_is_system : Df := ⟨F__law_is_system, "_law_is_system", top 21, ["_law_n", "_law_value", "_law_row", "_law_number"], ["_law_n", "_law_value"]⟩
def D_law : Df := ⟨F_law, "law", top 22, ["_law_script", "_law_pen", "_law_turn", "_law_n", "_law_system", "_law_row", "_law_some", "_law_odd_here", "_law_bent_here", "_law_values", "_law_value", "_law_one", "_law_text", "_law_point", "_law_number", "_law_again", "_law_k"], ["_law_script"]⟩
def tb : List Df := [D_is_integer, D_is_row, D_is_system, D_comes_to, D__law_open, D__law_spread, D__law_take, D__law_same, D__law_one_of, D__law_odd, D__law_bent, D__law_comes, D__law_is_whole, D__law_draw_row, D__law_with_point, D__law_with_weights, D__law_draw_system, D__law_is_system, D_law]
def gl : List (Str × PyData) := [("MOST_ROWS", (.int (24)))]
theorem O_is_integer : DfOk tb gl D_is_integer where
  S := ⟨rfl, rfl, rfl, by decide +kernel, rfl, by decide +kernel, by decide +kernel⟩
  hb := fun _ _ _ _ _ _ us hl => match us, hl with | [_], _ => rfl
  mu := rfl
  sl := rfl
  ck := by decide +kernel
theorem O_is_row : DfOk tb gl D_is_row where
  S := ⟨rfl, rfl, rfl, by decide +kernel, rfl, by decide +kernel, by decide +kernel⟩
  hb := fun _ _ _ _ _ _ us hl => match us, hl with | [_, _], _ => rfl
  mu := rfl
  sl := rfl
  ck := by decide +kernel
theorem O_is_system : DfOk tb gl D_is_system where
  S := ⟨rfl, rfl, rfl, by decide +kernel, rfl, by decide +kernel, by decide +kernel⟩
  hb := fun _ _ _ _ _ _ us hl => match us, hl with | [_, _], _ => rfl
  mu := rfl
  sl := rfl
  ck := by decide +kernel
theorem O_comes_to : DfOk tb gl D_comes_to where
  S := ⟨rfl, rfl, rfl, by decide +kernel, rfl, by decide +kernel, by decide +kernel⟩
  hb := fun _ _ _ _ _ _ us hl => match us, hl with | [_, _], _ => rfl
  mu := rfl
  sl := rfl
  ck := by decide +kernel
theorem O__law_open : DfOk tb gl D__law_open where
  S := ⟨rfl, rfl, rfl, by decide +kernel, rfl, by decide +kernel, by decide +kernel⟩
  hb := fun _ _ _ _ _ _ us hl => match us, hl with | [_], _ => rfl
  mu := rfl
  sl := rfl
  ck := by decide +kernel
theorem O__law_spread : DfOk tb gl D__law_spread where
  S := ⟨rfl, rfl, rfl, by decide +kernel, rfl, by decide +kernel, by decide +kernel⟩
  hb := fun _ _ _ _ _ _ us hl => match us, hl with | [_, _], _ => rfl
  mu := rfl
  sl := rfl
  ck := by decide +kernel
theorem O__law_take : DfOk tb gl D__law_take where
  S := ⟨rfl, rfl, rfl, by decide +kernel, rfl, by decide +kernel, by decide +kernel⟩
  hb := fun _ _ _ _ _ _ us hl => match us, hl with | [_, _], _ => rfl
  mu := rfl
  sl := rfl
  ck := by decide +kernel
theorem O__law_same : DfOk tb gl D__law_same where
  S := ⟨rfl, rfl, rfl, by decide +kernel, rfl, by decide +kernel, by decide +kernel⟩
  hb := fun _ _ _ _ _ _ us hl => match us, hl with | [_, _], _ => rfl
  mu := rfl
  sl := rfl
  ck := by decide +kernel
theorem O__law_one_of : DfOk tb gl D__law_one_of where
  S := ⟨rfl, rfl, rfl, by decide +kernel, rfl, by decide +kernel, by decide +kernel⟩
  hb := fun _ _ _ _ _ _ us hl => match us, hl with | [_, _], _ => rfl
  mu := rfl
  sl := rfl
  ck := by decide +kernel
theorem O__law_odd : DfOk tb gl D__law_odd where
  S := ⟨rfl, rfl, rfl, by decide +kernel, rfl, by decide +kernel, by decide +kernel⟩
  hb := fun _ _ _ _ _ _ us hl => match us, hl with | [_], _ => rfl
  mu := rfl
  sl := rfl
  ck := by decide +kernel
theorem O__law_bent : DfOk tb gl D__law_bent where
  S := ⟨rfl, rfl, rfl, by decide +kernel, rfl, by decide +kernel, by decide +kernel⟩
  hb := fun _ _ _ _ _ _ us hl => match us, hl with | [_, _], _ => rfl
  mu := rfl
  sl := rfl
  ck := by decide +kernel
theorem O__law_comes : DfOk tb gl D__law_comes where
  S := ⟨rfl, rfl, rfl, by decide +kernel, rfl, by decide +kernel, by decide +kernel⟩
  hb := fun _ _ _ _ _ _ us hl => match us, hl with | [_, _], _ => rfl
  mu := rfl
  sl := rfl
  ck := by decide +kernel
theorem O__law_is_whole : DfOk tb gl D__law_is_whole where
  S := ⟨rfl, rfl, rfl, by decide +kernel, rfl, by decide +kernel, by decide +kernel⟩
  hb := fun _ _ _ _ _ _ us hl => match us, hl with | [_], _ => rfl
  mu := rfl
  sl := rfl
  ck := by decide +kernel
theorem O__law_draw_row : DfOk tb gl D__law_draw_row where
  S := ⟨rfl, rfl, rfl, by decide +kernel, rfl, by decide +kernel, by decide +kernel⟩
  hb := fun _ _ _ _ _ _ us hl => match us, hl with | [_, _], _ => rfl
  mu := rfl
  sl := rfl
  ck := by decide +kernel
theorem O__law_with_point : DfOk tb gl D__law_with_point where
  S := ⟨rfl, rfl, rfl, by decide +kernel, rfl, by decide +kernel, by decide +kernel⟩
  hb := fun _ _ _ _ _ _ us hl => match us, hl with | [_, _, _], _ => rfl
  mu := rfl
  sl := rfl
  ck := by decide +kernel
theorem O__law_with_weights : DfOk tb gl D__law_with_weights where
  S := ⟨rfl, rfl, rfl, by decide +kernel, rfl, by decide +kernel, by decide +kernel⟩
  hb := fun _ _ _ _ _ _ us hl => match us, hl with | [_, _, _], _ => rfl
  mu := rfl
  sl := rfl
  ck := by decide +kernel
theorem O__law_draw_system : DfOk tb gl D__law_draw_system where
  S := ⟨rfl, rfl, rfl, by decide +kernel, rfl, by decide +kernel, by decide +kernel⟩
  hb := fun _ _ _ _ _ _ us hl => match us, hl with | [_, _, _], _ => rfl
  mu := rfl
  sl := rfl
  ck := by decide +kernel
theorem O__law_is_system : DfOk tb gl D__law_is_system where
  S := ⟨rfl, rfl, rfl, by decide +kernel, rfl, by decide +kernel, by decide +kernel⟩
  hb := fun _ _ _ _ _ _ us hl => match us, hl with | [_, _], _ => rfl
  mu := rfl
  sl := rfl
  ck := by decide +kernel
theorem O_law : DfOk tb gl D_law where
  S := ⟨rfl, rfl, rfl, by decide +kernel, rfl, by decide +kernel, by decide +kernel⟩
  hb := fun _ _ _ _ _ _ us hl => match us, hl with | [_], _ => rfl
  mu := rfl
  sl := rfl
  ck := by decide +kernel
theorem ok : ∀ d ∈ tb, DfOk tb gl d := fun d hd => by
  rcases (by simpa [tb] using hd : d = D_is_integer ∨ d = D_is_row ∨ d = D_is_system ∨ d = D_comes_to ∨ d = D__law_open ∨ d = D__law_spread ∨ d = D__law_take ∨ d = D__law_same ∨ d = D__law_one_of ∨ d = D__law_odd ∨ d = D__law_bent ∨ d = D__law_comes ∨ d = D__law_is_whole ∨ d = D__law_draw_row ∨ d = D__law_with_point ∨ d = D__law_with_weights ∨ d = D__law_draw_system ∨ d = D__law_is_system ∨ d = D_law) with rfl | rfl | rfl | rfl | rfl | rfl | rfl | rfl | rfl | rfl | rfl | rfl | rfl | rfl | rfl | rfl | rfl | rfl | rfl
  · exact O_is_integer
  · exact O_is_row
  · exact O_is_system
  · exact O_comes_to
  · exact O__law_open
  · exact O__law_spread
  · exact O__law_take
  · exact O__law_same
  · exact O__law_one_of
  · exact O__law_odd
  · exact O__law_bent
  · exact O__law_comes
  · exact O__law_is_whole
  · exact O__law_draw_row
  · exact O__law_with_point
  · exact O__law_with_weights
  · exact O__law_draw_system
  · exact O__law_is_system
  · exact O_law
end K06
namespace K06
open PySem MP
theorem spec (ns : List Int) (h : ns.length ≤ 63) : ∃ fin, MP.run (tbF tb) 60 18 [(false, .list (ns.map .int))] = some ((false, .bool true), fin) := by
  have s4 := open_S (T := tbF tb) (f := 4) rfl
  have s5 := spread_S (T := tbF tb) (f := 5) rfl
  have s6 := take_S (T := tbF tb) (f := 6) rfl s5
  have s8 := one_of_S (T := tbF tb) (f := 8) rfl s6
  have s13 := law_draw_row_S (T := tbF tb) (f := 13) rfl s8 s6
  have s11 := law_comes_Y (T := tbF tb) (f := 11) rfl
  have s14 := law_with_point_S (T := tbF tb) (f := 14) rfl s6 s11
  have s15 := law_with_weights_S (T := tbF tb) (f := 15) rfl s6
  have s16 := law_draw_system_S (T := tbF tb) (f := 16) rfl s6 s13 s14 s15
  have s9 := odd04_S (T := tbF tb) (f := 9) rfl s8
  have s10 := bentB_S (T := tbF tb) (f := 10) rfl s6 s8 s9
  have s7 := same_S (T := tbF tb) (f := 7) rfl
  have s0 := is_integer_S (T := tbF tb) (f := 0) rfl
  have s1 := is_row_S (T := tbF tb) (f := 1) rfl s0
  have s2 := is_system_S (T := tbF tb) (f := 2) rfl s1
  have s12 := law_is_whole_S (T := tbF tb) (f := 12) rfl
  have s17 := law_is_system_S (T := tbF tb) (f := 17) rfl s12
  have s3 := comes_to_Y (T := tbF tb) (f := 3) rfl
  obtain ⟨r, fin, e, rfl⟩ := law_k06_ok (T := tbF tb) (f := 18) rfl s4 s16 s13 s8 s10 s9 s7 s2 s17 s6 s3 s11 20 ns h
  exact ⟨fin, e⟩
end K06
namespace K06
open PySem PySem.W PySem.Calls PySem.Spec PyProof.Rows L2 MP
abbrev more : List He.Fa := []
abbrev R : PySem.W.OpenRow := PySem.W.OpenLaw.row PySem.Challenge.rw_keybench_k06_systems_recognized
abbrev hk : PySem.W.Hook := hookM 4 (tbFa tb more) (tb.map Df.dd) gl
def ob (s : PySem.W.SharedT) : AlM := obsM 4 (tbFa tb more) (tb.map Df.dd) gl (HandSHeadRun.getT s)
theorem ob_eq (s : PySem.W.SharedT) : ob s = hk.obs s.abs := obsM_eq (HandSHeadRun.getT_eq s)
theorem run (w : World) : HandSHeadRun.RunEq R (PySem.W.view R.prog [22]) hk ob 4000 ["__name__", "is_integer", "MOST_ROWS", "is_row", "is_system", "comes_to", "_law_open", "_law_spread", "_law_take", "_law_same", "_law_one_of", "_law_odd", "_law_bent", "_law_comes", "_law_is_whole", "_law_draw_row", "_law_with_point", "_law_with_weights", "_law_draw_system", "_law_is_system"] w := by
  intro os
  kernel_rfl
end K06
open PySem PySem.W PySem.Calls PyProof.Rows
theorem PySem.Challenge.cw_keybench_k06_systems_recognized_holds : PySem.Challenge.rw_keybench_k06_systems_recognized.Holds := by
  w_on; o_law
  refine HandSHeadRun.head_any (r := OpenLaw.row PySem.Challenge.rw_keybench_k06_systems_recognized) (q := view (OpenLaw.row PySem.Challenge.rw_keybench_k06_systems_recognized).prog [22]) (H := K06.hk) (ob := K06.ob) (M := 4000) (loose := ["__name__", "is_integer", "MOST_ROWS", "is_row", "is_system", "comes_to", "_law_open", "_law_spread", "_law_take", "_law_same", "_law_one_of", "_law_odd", "_law_bent", "_law_comes", "_law_is_whole", "_law_draw_row", "_law_with_point", "_law_with_weights", "_law_draw_system", "_law_is_system"]) (d := HandSHeadRun.topDef (OpenLaw.row PySem.Challenge.rw_keybench_k06_systems_recognized).prog 22) (kwd := []) K06.ob_eq
    (by kernel_rfl) (fun s => by kernel_rfl) K06.run (by kernel_rfl) (by kernel_rfl) (by kernel_rfl) (by rfl) (by first | assumption | decide +kernel) (by decide +kernel) ⟨rfl, rfl, rfl, rfl, rfl, by decide +kernel⟩ ?hw ?hc
  case hw => w_witness2
  case hc =>
    refine MP.walk_m (l := PySem.Challenge.rw_keybench_k06_systems_recognized) (n := 63) (k := 60) (fas := MP.tbFa K06.tb K06.more) (fns := K06.tb.map MP.Df.dd) (gl := K06.gl) (dep := 4) (φ := MP.run (MP.tbF K06.tb) 60 18) rfl (by decide) (by kernel_rfl) ⟨by decide, by decide, by decide⟩ ?F (fun ns h => K06.spec ns h)
    intro w K mg fa h X c G hmg base hK hb
    have e : (HandSHeadRun.topDef (OpenLaw.row PySem.Challenge.rw_keybench_k06_systems_recognized).prog 22).name = ("law" : PySem.Str) := by kernel_rfl
    rw [e] at hmg
    have q := He.glo_ok X G (c.d.facts (f := .glo ("law" : PySem.Str)) (List.mem_append.mpr (.inl (List.mem_map.mpr ⟨K06.D_law, List.mem_of_getElem? (i := 18) rfl, rfl⟩))))
    rw [hmg] at q
    cases q
    exact MP.tab X G c K06.ok 60 18 K06.D_law rfl
